import PyProof.Rows.All
import Wide.All
import OpenK.AllK
import Wide.FinOn
import HandS.ForMost
import HandS.Walk
import HandS.Exc
import HandS.Wide
import HandS.IsInst
import HandS.TupAny
import HandS.TupLe
import HandS.ExcOwn
import HandS.WordsExc
import HandS.EndBits
import HandS.SortInts
import HandS.Zip
import HandS.Style
import HandS.MapJoin
import HandS.SetKeys
import HandS.More
import KE.SortData
import KE.DataMinMax
import KE.DataCmp
import KE.KDictList
import HandS.WideBits
import KE.GoesMore
import HandS.Conv
import PyProof.ReprRoads
import HandS.RaiseMore
import HandS.SortKw
import HandS.SetFor
import HandS.Strs
import PyProof.CallStr
import HandS.Rev
import KE.KEqDict
import KE.KDictPairs
import KE.KStateDown
import HandS.Head0
import HandS.Head1
import HandS.Head2
import HandS.HeadHook1
import HandS.HeadHook4
import PySem.Challenge.RW_joinback_k70_whole_papers_spoilt_anywher
set_option Elab.async false
set_option linter.all false
set_option maxRecDepth 100000
set_option maxHeartbeats 0
namespace VS
open PySem L2
inductive Fl where | m | l | f | k
deriving DecidableEq
inductive D where
 | non
 | bl (b:Bool)
 | int (i:Int)
 | str (s:Str)
 | ty (n:String)
 | tup (ds:List D)
 | lst (g:Fl) (ds:List D)
 | dct (g:Fl) (ks:List Key) (ds:List D)
 | obj (g:Fl) (c:Str) (ns:List Str) (ds:List D)
 | exc (c:Str) (ns:List Str) (ds:List D)
 | ftu (ds:List D)
abbrev Env:=List (Option D)
abbrev FPs:=List (List Addr)
structure Ctx where
 K:PySem.W.Frag
 mg:Str→Option Value
 H0:Hp
 A:List Addr
 Lk:List Addr
def Mutb:HO→Prop
 | .lst _=>True
 | .dK _=>True
 | .ins _ _ _=>True
 | _=>False
def Hard:HO→Prop
 | .ext _=>True
 | .xd _=>True
 | _=>False
theorem Hard.nm {u:HO} (h:Hard u) (m:Mutb u):False:=by cases u<;>simp_all [Hard,Mutb]
structure Mono (H H':Hp):Prop where
 t:∀a xs,H a=some (.tup xs)→H' a=some (.tup xs)
 z:∀a o u,H a=some (.frz o u)→H' a=some (.frz o u)
 x:∀a o,Hard o→H a=some o→H' a=some o
theorem Mono.refl (H:Hp):Mono H H:=⟨fun _ _ h=>h,fun _ _ _ h=>h,fun _ _ _ h=>h⟩
theorem Mono.trans {H H1 H2:Hp} (a:Mono H H1) (b:Mono H1 H2):Mono H H2:=⟨fun x y h=>b.t x y (a.t x y h),fun x y z h=>b.z x y z (a.z x y z h),fun x o k h=>b.x x o k (a.x x o k h)⟩
theorem Mono.upd {H:Hp} {a:Addr} {u o:HO} (h:H a=some u) (mu:Mutb u):Mono H (upd H a o):=by
 refine⟨?_,?_,fun b w hw e=>?_⟩
 ·intro b xs e
  have:b≠a:=by rintro rfl;rw[h]at e;cases e;exact mu
  rw[upd_ne this];exact e
 ·intro b x y e
  have:b≠a:=by rintro rfl;rw[h]at e;cases e;exact mu
  rw[upd_ne this];exact e
 ·have:b≠a:=by rintro rfl;rw[h]at e;cases e;exact hw.nm mu
  rw[upd_ne this];exact e
theorem Mono.new {H:Hp} {a:Addr} {o:HO} (h:H a=none):Mono H (L2.upd H a o):=by
 refine⟨?_,?_,fun b w _ e=>by rw[upd_ne (ne_of_none e h)];exact e⟩
 ·intro b xs e
  rw[upd_ne (ne_of_none e h)];exact e
 ·intro b x y e
  rw[upd_ne (ne_of_none e h)];exact e
def KL (K:PySem.W.Frag) (a:Addr) (xs:List V):Prop :=
 ∃(o:Obj) (its:Array Value) (n:Nat),K.lookup a=some o∧o.cls=.type "list" ∧ o.dict=none∧o.data=.seq its n∧its.size≤sizeLine∧Vals xs its.toList
def RdK (K:PySem.W.Frag) (H:Hp) (a:Addr) (u:HO):Prop:=Rd H a u∨∃xs,u=.lst xs∧KL K a xs
theorem RdK.sql {K H a xs} (h:RdK K H a (.lst xs)):SqL K H a xs:=by
 rcases h with h | ⟨ys,e,h⟩
 ·exact .inl h
 ·cases e;exact .inr h
theorem RdK.rd {K H a u} (h:RdK K H a u) (n:∀xs,u≠.lst xs):Rd H a u:=by
 rcases h with h | ⟨ys,e,h⟩
 ·exact h
 ·exact absurd e (n ys)
def Nd (C:Ctx) (H:Hp):Fl→Addr→HO→List Addr→Prop
 | .m,a,u,fp=>H a=some u∧fp=[a]
 | .l,a,u,fp=>((Rd C.H0 a u∧a∉C.A)∨∃xs,u=.lst xs∧KL C.K a xs)∧fp=[]
 | .f,a,u,fp=>(∃o,H a=some (.frz o u))∧a∉C.Lk∧fp=[]
 | .k,a,u,fp=>(∃o,H a=some (.frz o u))∧fp=[]
def ExP (a:Addr) (cls:Value) (d:Option Addr):HO:=.ext fun h=>∃(oe:Obj) (vs:Array Value),h.get? a=some oe∧Zc cls d oe∧oe.data=.fields vs
def XdAt (H:Hp):Option Addr→List (Str × V)→Prop
 | none,fs=>fs=[]
 | some da,fs=>H da=some (.xd fs)
theorem XdAt.mono {H H':Hp} (m:Mono H H'):∀{d:Option Addr} {fs:List (Str × V)},XdAt H d fs→XdAt H' d fs
 | none,_,h=>h
 | some _,_,h=>m.x _ _ trivial h
def FT (H:Hp) (a:Addr) (vs:List V):Prop:=∃o,H a=some (.frz o (.tup vs))∧o.dict=none
theorem FT.keep {H H':Hp} {a:Addr} {vs:List V} (h:FT H a vs) (hm:Mono H H'):FT H' a vs:=let ⟨o,e,q⟩:=h;⟨o,hm.z _ _ _ e,q⟩
theorem FT.sqt {K:PySem.W.Frag} {H:Hp} {a:Addr} {vs:List V} (h:FT H a vs):SqT K H a vs:=let ⟨o,e,_⟩:=h;.inl (.inr ⟨o,e⟩)
def Jft (C:Ctx) (c:Str) (Ca:Addr):Prop:=C.mg c=some (.ref Ca)
mutual
def Rep (C:Ctx) (H:Hp):D→V→List Addr→Prop
 | .non,v,fp=>v=.non∧fp=[]
 | .bl b,v,fp=>v=.bl b∧fp=[]
 | .int i,v,fp=>v=.int i∧fp=[]
 | .str s,v,fp=>v=.str s∧fp=[]
 | .ty s,v,fp=>v=.ty s∧fp=[]
 | .tup ds,v,fp=>∃a vs,v=.ref a∧SqT C.K H a vs∧Reps C H ds vs fp
 | .ftu ds,v,fp=>∃a vs,v=.ref a∧FT H a vs∧Reps C H ds vs fp
 | .lst g ds,v,fp=>∃a vs f1 f2,v=.ref a∧Nd C H g a (.lst vs) f1∧Reps C H ds vs f2∧(g=.m∨f2=[])∧fp=f1++f2
 | .dct g ks ds,v,fp=>∃a kvs f1 f2,v=.ref a∧Nd C H g a (.dK kvs) f1∧(kvs.map (·.1)=ks∧ks.Nodup)∧Reps C H ds (kvs.map (·.2)) f2∧(g=.m∨f2=[])∧fp=f1++f2
 | .obj g c ns ds,v,fp=>∃a Ca dx fs f1 f2,v=.ref a∧Jft C c Ca∧Nd C H g a (.ins Ca dx fs) f1∧fs.map (·.1)=ns∧Reps C H ds (fs.map (·.2)) f2∧(g=.m∨f2=[])∧fp=f1++f2
 | .exc c ns ds,v,fp=>∃a Ca d fs,v=.ref a∧Jft C c Ca∧H a=some (ExP a (.ref Ca) d)∧XdAt H d fs∧fs.map (·.1)=ns∧Reps C H ds (fs.map (·.2)) []∧fp=[]
def Reps (C:Ctx) (H:Hp):List D→List V→List Addr→Prop
 | [],vs,fp=>vs=[]∧fp=[]
 | d::ds,vs,fp=>∃v vs' f1 f2,vs=v::vs'∧Rep C H d v f1∧Reps C H ds vs' f2∧fp=f1++f2
end
mutual
def D.imm:D→Bool
 | .tup ds=>imms ds
 | .ftu ds=>imms ds
 | .lst g ds=>(g == .l || g == .f) && imms ds
 | .dct g _ ds=>(g == .l || g == .f) && imms ds
 | .obj g _ _ ds=>(g == .l || g == .f) && imms ds
 | _=>true
def imms:List D→Bool
 | []=>true
 | d::ds=>d.imm && imms ds
end
mutual
def D.nol:D→Bool
 | .tup ds=>nols ds
 | .ftu ds=>nols ds
 | .lst g ds=>(g == .m || g == .f) && nols ds
 | .dct g _ ds=>(g == .m || g == .f) && nols ds
 | .obj g _ _ ds=>(g == .m || g == .f) && nols ds
 | .exc _ _ ds=>nols ds
 | _=>true
def nols:List D→Bool
 | []=>true
 | d::ds=>d.nol && nols ds
end
def Fl.lend:Fl→Fl:=fun _=>.l
def Fl.fix:Fl→Fl
 | .m=>.f
 | g=>g
mutual
def D.lend:D→D
 | .tup ds=>.tup (lends ds)
 | .ftu ds=>.ftu (lends ds)
 | .lst g ds=>.lst g.lend (lends ds)
 | .dct g ks ds=>.dct g.lend ks (lends ds)
 | .obj g c ns ds=>.obj g.lend c ns (lends ds)
 | d=>d
def lends:List D→List D
 | []=>[]
 | d::ds=>d.lend::lends ds
end
mutual
def D.fix:D→D
 | .tup ds=>.tup (fixs ds)
 | .ftu ds=>.ftu (fixs ds)
 | .lst g ds=>.lst g.fix (fixs ds)
 | .dct g ks ds=>.dct g.fix ks (fixs ds)
 | .obj g c ns ds=>.obj g.fix c ns (fixs ds)
 | d=>d
def fixs:List D→List D
 | []=>[]
 | d::ds=>d.fix::fixs ds
end
section
variable {C:Ctx} {H H':Hp}
theorem Nd.keep {g a u fp} (n:Nd C H g a u fp) (hk:∀b∈fp,H' b=H b) (hm:Mono H H'):Nd C H' g a u fp:=by
 cases g with
 | m=>obtain⟨e,rfl⟩:=n;exact⟨by rw[hk a (by simp)];exact e,rfl⟩
 | l=>exact n
 | f=>obtain⟨⟨o,e⟩,x,rfl⟩:=n;exact⟨⟨o,hm.z _ _ _ e⟩,x,rfl⟩
 | k=>obtain⟨⟨o,e⟩,rfl⟩:=n;exact⟨⟨o,hm.z _ _ _ e⟩,rfl⟩
theorem Jbk {K a xs} (h:SqT K H a xs) (hm:Mono H H'):SqT K H' a xs:=by
 rcases h with (h | ⟨o,h⟩) | h
 ·exact .inl (.inl (hm.t _ _ h))
 ·exact .inl (.inr ⟨o,hm.z _ _ _ h⟩)
 ·exact .inr h
mutual
theorem Rep.keep:∀{d:D} {v:V} {fp:List Addr},Rep C H d v fp→(∀a∈fp,H' a=H a)→Mono H H'→Rep C H' d v fp
 | .non,v,fp,h,_,_=>h
 | .bl b,v,fp,h,_,_=>h
 | .int i,v,fp,h,_,_=>h
 | .str s,v,fp,h,_,_=>h
 | .ty s,v,fp,h,_,_=>h
 | .tup ds,v,fp,⟨a,vs,e,t,r⟩,hk,hm=>⟨a,vs,e,Jbk t hm,Reps.keep r hk hm⟩
 | .ftu ds,v,fp,⟨a,vs,e,t,r⟩,hk,hm=>⟨a,vs,e,t.keep hm,Reps.keep r hk hm⟩
 | .lst g ds,v,fp,⟨a,vs,f1,f2,e,n,r,z,e2⟩,hk,hm=>⟨a,vs,f1,f2,e,n.keep (fun b hb=>hk b (by rw[e2];exact List.mem_append_left _ hb)) hm,Reps.keep r (fun b hb=>hk b (by rw[e2];exact List.mem_append_right _ hb)) hm,z,e2⟩
 | .dct g ks ds,v,fp,⟨a,vs,f1,f2,e,n,q,r,z,e2⟩,hk,hm=>⟨a,vs,f1,f2,e,n.keep (fun b hb=>hk b (by rw[e2];exact List.mem_append_left _ hb)) hm,q,Reps.keep r (fun b hb=>hk b (by rw[e2];exact List.mem_append_right _ hb)) hm,z,e2⟩
 | .obj g c ns ds,v,fp,⟨a,Ca,dx,fs,f1,f2,e,c1,n,q,r,z,e2⟩,hk,hm=>⟨a,Ca,dx,fs,f1,f2,e,c1,n.keep (fun b hb=>hk b (by rw[e2];exact List.mem_append_left _ hb)) hm,q,Reps.keep r (fun b hb=>hk b (by rw[e2];exact List.mem_append_right _ hb)) hm,z,e2⟩
 | .exc c ns ds,v,fp,⟨a,Ca,d,fs,e,c1,n,x,q,r,e2⟩,hk,hm=>⟨a,Ca,d,fs,e,c1,hm.x _ _ trivial n,x.mono hm,q,Reps.keep r (fun b hb=>nomatch hb) hm,e2⟩
theorem Reps.keep:∀{ds:List D} {vs:List V} {fp:List Addr},Reps C H ds vs fp→(∀a∈fp,H' a=H a)→Mono H H'→Reps C H' ds vs fp
 | [],vs,fp,h,_,_=>h
 | d::ds,vs,fp,⟨v,vs',f1,f2,e,r,rs,e2⟩,hk,hm=>⟨v,vs',f1,f2,e,Rep.keep r (fun b hb=>hk b (by rw[e2];exact List.mem_append_left _ hb)) hm,Reps.keep rs (fun b hb=>hk b (by rw[e2];exact List.mem_append_right _ hb)) hm,e2⟩
end
theorem Nd.imm {g a u fp} (n:Nd C H g a u fp) (h:(g == .l || g == .f)=true):fp=[]:=by
 cases g with
 | m=>cases h
 | l=>exact n.2
 | f=>exact n.2.2
 | k=>cases h
mutual
theorem Rep.imm:∀{d:D} {v:V} {fp:List Addr},Rep C H d v fp→d.imm=true→fp=[]
 | .non,v,fp,h,_=>h.2
 | .bl b,v,fp,h,_=>h.2
 | .int i,v,fp,h,_=>h.2
 | .str s,v,fp,h,_=>h.2
 | .ty s,v,fp,h,_=>h.2
 | .tup ds,v,fp,⟨a,vs,e,t,r⟩,hi=>Reps.imm r hi
 | .ftu ds,v,fp,⟨a,vs,e,t,r⟩,hi=>Reps.imm r hi
 | .lst g ds,v,fp,⟨a,vs,f1,f2,e,n,r,z,e2⟩,hi=>by
  have h:=Bool.and_eq_true_iff.mp hi
  rw[e2,n.imm h.1,Reps.imm r h.2];rfl
 | .dct g ks ds,v,fp,⟨a,vs,f1,f2,e,n,q,r,z,e2⟩,hi=>by
  have h:=Bool.and_eq_true_iff.mp hi
  rw[e2,n.imm h.1,Reps.imm r h.2];rfl
 | .obj g c ns ds,v,fp,⟨a,Ca,dx,fs,f1,f2,e,c1,n,q,r,z,e2⟩,hi=>by
  have h:=Bool.and_eq_true_iff.mp hi
  rw[e2,n.imm h.1,Reps.imm r h.2];rfl
 | .exc c ns ds,v,fp,⟨a,Ca,d,fs,e,c1,n,x,q,r,e2⟩,hi=>e2
theorem Reps.imm:∀{ds:List D} {vs:List V} {fp:List Addr},Reps C H ds vs fp→imms ds=true→fp=[]
 | [],vs,fp,h,_=>h.2
 | d::ds,vs,fp,⟨v,vs',f1,f2,e,r,rs,e2⟩,hi=>by
  have h:=Bool.and_eq_true_iff.mp hi
  rw[e2,Rep.imm r h.1,Reps.imm rs h.2];rfl
end
end
section
variable {C:Ctx} {H H':Hp}
theorem Nd.trk {g a u fp} (n:Nd C H g a u fp) (mu:Mutb u):∀b∈fp,∃o,H b=some o∧Mutb o:=by
 cases g with
 | m=>obtain⟨e,rfl⟩:=n;intro b hb;simp at hb;subst hb;exact⟨u,e,mu⟩
 | l=>obtain⟨_,rfl⟩:=n;intro b hb;cases hb
 | f=>obtain⟨_,_,rfl⟩:=n;intro b hb;cases hb
 | k=>obtain⟨_,rfl⟩:=n;intro b hb;cases hb
mutual
theorem Rep.trk:∀{d:D} {v:V} {fp:List Addr},Rep C H d v fp→∀b∈fp,∃o,H b=some o∧Mutb o
 | .non,v,fp,h=>by rw[h.2];intro b hb;cases hb
 | .bl b,v,fp,h=>by rw[h.2];intro b hb;cases hb
 | .int i,v,fp,h=>by rw[h.2];intro b hb;cases hb
 | .str s,v,fp,h=>by rw[h.2];intro b hb;cases hb
 | .ty s,v,fp,h=>by rw[h.2];intro b hb;cases hb
 | .tup ds,v,fp,⟨a,vs,e,t,r⟩=>Reps.trk r
 | .ftu ds,v,fp,⟨a,vs,e,t,r⟩=>Reps.trk r
 | .lst g ds,v,fp,⟨a,vs,f1,f2,e,n,r,z,e2⟩=>fun b hb=>by
  rw[e2]at hb
  exact(List.mem_append.mp hb).elim (Nd.trk n trivial b) (Reps.trk r b)
 | .dct g ks ds,v,fp,⟨a,vs,f1,f2,e,n,q,r,z,e2⟩=>fun b hb=>by
  rw[e2]at hb
  exact(List.mem_append.mp hb).elim (Nd.trk n trivial b) (Reps.trk r b)
 | .obj g c ns ds,v,fp,⟨a,Ca,dx,fs,f1,f2,e,c1,n,q,r,z,e2⟩=>fun b hb=>by
  rw[e2]at hb
  exact(List.mem_append.mp hb).elim (Nd.trk n trivial b) (Reps.trk r b)
 | .exc c ns ds,v,fp,⟨a,Ca,d,fs,e,c1,n,x,q,r,e2⟩=>fun b hb=>by rw[e2]at hb;cases hb
theorem Reps.trk:∀{ds:List D} {vs:List V} {fp:List Addr},Reps C H ds vs fp→∀b∈fp,∃o,H b=some o∧Mutb o
 | [],vs,fp,h=>by rw[h.2];intro b hb;cases hb
 | d::ds,vs,fp,⟨v,vs',f1,f2,e,r,rs,e2⟩=>fun b hb=>by
  rw[e2]at hb
  exact(List.mem_append.mp hb).elim (Rep.trk r b) (Reps.trk rs b)
end
def Fr (C:Ctx) (H:Hp):Prop:=∀a o,C.H0 a=some o→a∉C.A→H a=some o∨(a∈C.Lk∧Mutb o∧∃ob,H a=some (.frz ob o))
theorem Nd.rd {g a u fp} (n:Nd C H g a u fp) (f:Fr C H):RdK C.K H a u:=by
 cases g with
 | m=>exact .inl (.inl n.1)
 | l =>
  obtain⟨⟨h | ⟨o,h⟩,na⟩ | h,_⟩:=n
  ·rcases f a _ h na with q | ⟨_,_,ob,q⟩
   ·exact .inl (.inl q)
   ·exact .inl (.inr ⟨ob,q⟩)
  ·rcases f a _ h na with q | ⟨_,mu,ob,q⟩
   ·exact .inl (.inr ⟨o,q⟩)
   ·exact mu.elim
  ·exact .inr h
 | f=>exact .inl (.inr n.1)
 | k=>exact .inl (.inr n.1)
structure Good (C:Ctx) (fs:FPs) (env:Env) (σ:St) (H:Hp) (tf:List Addr):Prop where
 le:env.length=σ.length
 lf:fs.length=σ.length
 rep:∀i d,env[i]?=some (some d)→∃v,σ[i]?=some (some v)∧Rep C H d v (fs.getD i [])
 nd:(fs.flatten++tf).Nodup
 own:∀a∈fs.flatten++tf,a∈C.A∨C.H0 a=none
 trk:∀a∈fs.flatten++tf,∃o,H a=some o∧Mutb o
 fr:Fr C H
 lk:∀a∈C.Lk,∃ob u,H a=some (.frz ob u)
structure Step (M:List Nat) (tf:List Addr) (fs:FPs) (env:Env) (H:Hp) (fs':FPs) (env':Env) (H':Hp):Prop where
 t:∀a∈tf,H' a=H a
 f:∀i,i∉M→fs'.getD i []=fs.getD i []
 e:∀i,i∉M→env'[i]?=env[i]?
 h:∀i,i∉M→∀a∈fs.getD i [],H' a=H a
 m:Mono H H'
theorem Step.refl {M tf fs env H}:Step M tf fs env H fs env H:=⟨fun _ _=>rfl,fun _ _=>rfl,fun _ _=>rfl,fun _ _ _ _=>rfl,.refl H⟩
theorem Step.trans {M1 M2 tf fs env H fs1 env1 H1 fs2 env2 H2} (a:Step M1 tf fs env H fs1 env1 H1) (b:Step M2 tf fs1 env1 H1 fs2 env2 H2):Step (M1++M2) tf fs env H fs2 env2 H2:=by
 refine⟨fun x hx=>(b.t x hx).trans (a.t x hx),fun i hi=>?_,fun i hi=>?_,fun i hi x hx=>?_,a.m.trans b.m⟩
 all_goals rw[List.mem_append,not_or]at hi
 ·exact(b.f i hi.2).trans (a.f i hi.1)
 ·exact(b.e i hi.2).trans (a.e i hi.1)
 ·exact(b.h i hi.2 x (by rw[a.f i hi.1];exact hx)).trans (a.h i hi.1 x hx)
theorem Step.weak {M M' tf tf' fs env H fs1 env1 H1} (a:Step M tf fs env H fs1 env1 H1) (h:∀i∈M,i∈M') (ht:∀x∈tf',x∈tf):Step M' tf' fs env H fs1 env1 H1 :=
 ⟨fun x hx=>a.t x (ht x hx),fun i hi=>a.f i fun z=>hi (h i z),fun i hi=>a.e i fun z=>hi (h i z),fun i hi=>a.h i fun z=>hi (h i z),a.m⟩
theorem Jd4 (fs:FPs) {i:Nat} (hi:i < fs.length) (x:List Addr):(fs.set i x).flatten.Perm (x++(fs.set i []).flatten):=by
 induction fs generalizing i with
 | nil=>cases hi
 | cons f fs ih =>
  cases i with
  | zero=>simp
  | succ i =>
   simp only[List.set_cons_succ,List.flatten_cons]
   refine ((ih (by simpa using hi)).append_left f).trans ?_
   rw[←List.append_assoc,←List.append_assoc]
   exact List.perm_append_comm.append_right _
theorem Jal (fs:FPs) {i:Nat} (hi:i < fs.length):fs.flatten.Perm (fs.getD i []++(fs.set i []).flatten):=by
 have e:fs.set i (fs.getD i [])=fs:=by
  rw[List.getD_eq_getElem?_getD,List.getElem?_eq_getElem hi];simp
 have:=Jd4 fs hi (fs.getD i [])
 rwa[e]at this
theorem Zl (fs:FPs) (i j:Nat) (x:List Addr) (hi:i < fs.length):(fs.set i x).getD j []=if j=i then x else fs.getD j []:=by
 rw[List.getD_eq_getElem?_getD,List.getElem?_set,List.getD_eq_getElem?_getD]
 by_cases e:j=i
 ·subst e;simp[hi]
 ·simp[e,Ne.symm e]
theorem QQ {fs:FPs} {i:Nat} {a:Addr} (h:a∈fs.getD i []):a∈fs.flatten:=by
 rw[List.getD_eq_getElem?_getD]at h
 cases q:fs[i]? with
 | none=>rw[q]at h;simp at h
 | some x=>rw[q]at h;exact List.mem_flatten.mpr ⟨x,List.mem_of_getElem? q,by simpa using h⟩
theorem Good.lt {fs env σ tf i d} (G:Good C fs env σ H tf) (h:env[i]?=some (some d)):i < fs.length:=by
 have:=(List.getElem?_eq_some_iff.mp h).1
 rw[G.lf,←G.le];exact this
theorem Good.apart {fs env σ tf} (G:Good C fs env σ H tf) {i j:Nat} {a:Addr} (hij:i≠j) (hi:a∈fs.getD i []):a∉fs.getD j []:=fun hj=>by
 have lt:∀k:Nat,a∈fs.getD k []→k < fs.length:=fun k hk=>by
  rw[List.getD_eq_getElem?_getD]at hk
  cases q:fs[k]? with
  | none=>rw[q]at hk;simp at hk
  | some x=>exact(List.getElem?_eq_some_iff.mp q).1
 have p:=Jal fs (lt i hi)
 have nd:=(List.nodup_append.mp G.nd).1
 have nd2:=p.nodup_iff.mp nd
 have dj:=(List.nodup_append.mp nd2).2.2 a hi a
 refine dj ?_ rfl
 have:a∈(fs.set i []).getD j []:=by rw[Zl fs i j [] (lt i hi),if_neg (Ne.symm hij)];exact hj
 exact QQ this
theorem Good.apartT {fs env σ tf} (G:Good C fs env σ H tf) {i:Nat} {a:Addr} (hi:a∈fs.getD i []):a∉tf:=fun hj =>
 (List.nodup_append.mp G.nd).2.2 a (QQ hi) a hj rfl
end
end VS
namespace VS
open PySem L2
structure Exn where
 cls:Str
 pay:Option (Str × D)
inductive R (α:Type) where
 | ok (a:α) (e:Env)
 | ex (x:Exn) (e:Env)
 | err
def R.bind {α β:Type} (r:R α) (f:α→Env→R β):R β :=
 match r with
 | .ok a e=>f a e
 | .ex x e=>.ex x e
 | .err=>.err
def R.of {α:Type} (o:Option α) (e:Env):R α :=
 match o with
 | some a=>.ok a e
 | none=>.err
abbrev CE:=Env→R D
abbrev CA:=Env→R (List D)
def Ctx.At (C:Ctx) (X:Cx):Prop:=C.K=X.K∧C.mg=X.mg
def ExIs (C:Ctx) (x:Exn) (cv:Value) (dd:Option Addr) (H:Hp):Prop :=
 ∃Ca,C.mg x.cls=some (.ref Ca)∧cv=.ref Ca ∧
  match x.pay with
  | none=>dd=none
  | some (f,d)=>∃da v,dd=some da∧H da=some (.xd [(f,v)])∧d.nol=true∧Rep C H d v []
section
variable (X:Cx) (W:WX) (C:Ctx)
def Ut (M:List Nat) (tf:List Addr) (fs:FPs) (env:Env) (σ:St) (H:Hp) (Q:VK):R D→Prop
 | .ok d env'=>∀v fs' H' fp,Good C fs' env' σ H' (fp++tf)→Step M tf fs env H fs' env' H'→Rep C H' d v fp→Q v H'
 | .ex x env'=>∀cv dd fs' H',Good C fs' env' σ H' tf→Step M tf fs env H fs' env' H'→ExIs C x cv dd H'→W cv dd σ H'
 | .err=>False
def In (R:List Nat) (own:List Addr) (fs:FPs) (fp:List Addr):Prop:=∀a∈fp,a∈own∨∃r∈R,a∈fs.getD r []
def JfH (M Rs:List Nat) (tf:List Addr) (fs:FPs) (env:Env) (σ:St) (H:Hp) (Q:VK):R D→Prop
 | .ok d env'=>∀v fs' H' fp own,Good C fs' env' σ H' (own++tf)→Step M tf fs env H fs' env' H'→Rep C H' d v fp→In Rs own fs' fp→Q v H'
 | .ex x env'=>∀cv dd fs' H',Good C fs' env' σ H' tf→Step M tf fs env H fs' env' H'→ExIs C x cv dd H'→W cv dd σ H'
 | .err=>False
def JiL (M Rs:List Nat) (tf:List Addr) (fs:FPs) (env:Env) (σ:St) (H:Hp) (Q:List V→Hp→Prop):R (List D)→Prop
 | .ok ds env'=>∀vs fs' H' fp own,Good C fs' env' σ H' (own++tf)→Step M tf fs env H fs' env' H'→Reps C H' ds vs fp→In Rs own fs' fp→Q vs H'
 | .ex x env'=>∀cv dd fs' H',Good C fs' env' σ H' tf→Step M tf fs env H fs' env' H'→ExIs C x cv dd H'→W cv dd σ H'
 | .err=>False
end
structure SO (X:Cx) (W:WX) (M:List Nat) (e:Expr) (c:CE):Prop where
 go:∃t,PE X e t∧∀C fs env σ H tf Q,C.At X→Good C fs env σ H tf→Ut W C M tf fs env σ H Q (c env)→t σ H Q
structure SB (X:Cx) (W:WX) (M Rs:List Nat) (e:Expr) (c:CE):Prop where
 go:∃t,PE X e t∧∀C fs env σ H tf Q,C.At X→Good C fs env σ H tf→JfH W C M Rs tf fs env σ H Q (c env)→t σ H Q
structure SA (X:Cx) (W:WX) (M Rs:List Nat) (es:List Expr) (c:CA):Prop where
 go:∃t,PA X es t∧∀C fs env σ H tf Q,C.At X→Good C fs env σ H tf→JiL W C M Rs tf fs env σ H Q (c env)→t σ H Q
def Le (H H':Hp):Prop:=∀a o,H a=some o→H' a=some o
theorem Le.refl (H:Hp):Le H H:=fun _ _ h=>h
theorem Le.trans {H H1 H2:Hp} (a:Le H H1) (b:Le H1 H2):Le H H2:=fun x o h=>b x o (a x o h)
theorem Le.new {H:Hp} {a:Addr} {o:HO} (h:H a=none):Le H (upd H a o):=fun b u e=>by rw[upd_ne (ne_of_none e h)];exact e
theorem Le.mono {H H':Hp} (h:Le H H'):Mono H H':=⟨fun a xs e=>h a _ e,fun a o u e=>h a _ e,fun a o _ e=>h a _ e⟩
theorem Le.at {H H':Hp} (h:Le H H') {a:Addr} {P:HO→Prop} (t:∃o,H a=some o∧P o):H' a=H a:=by
 obtain⟨o,e,_⟩:=t
 rw[e];exact h a o e
section
variable {C:Ctx} {H H' H1 H2:Hp} {fs fs':FPs} {env env':Env} {σ:St} {tf fp own:List Addr} {M Rs:List Nat}
theorem Rep.le {d v} (r:Rep C H d v fp) (h:Le H H'):Rep C H' d v fp:=r.keep (fun a ha=>h.at (r.trk a ha)) h.mono
theorem Reps.le {ds vs} (r:Reps C H ds vs fp) (h:Le H H'):Reps C H' ds vs fp:=r.keep (fun a ha=>h.at (r.trk a ha)) h.mono
theorem Fr.le (f:Fr C H) (h:Le H H'):Fr C H':=fun a o e na=>by
 rcases f a o e na with q | ⟨q1,q2,ob,q3⟩
 ·exact .inl (h _ _ q)
 ·exact .inr ⟨q1,q2,ob,h _ _ q3⟩
theorem Fr.fresh (f:Fr C H) {a:Addr} (n:H a=none):a∈C.A∨C.H0 a=none:=by
 by_cases ha:a∈C.A
 ·exact .inl ha
 ·cases q:C.H0 a with
  | none=>exact .inr rfl
  | some o =>
   rcases f a o q ha with z | ⟨_,_,ob,z⟩
   ·rw[n]at z;cases z
   ·rw[n]at z;cases z
theorem Good.grow (G:Good C fs env σ H tf) (h:Le H H') (nd:fp.Nodup) (nw:∀a∈fp,H a=none) (tk:∀a∈fp,∃o,H' a=some o∧Mutb o):Good C fs env σ H' (fp++tf) where
 le:=G.le
 lf:=G.lf
 rep:=fun i d e=>let ⟨v,e1,r⟩:=G.rep i d e;⟨v,e1,r.le h⟩
 nd:=by
  have p:(fs.flatten++(fp++tf)).Perm (fp++(fs.flatten++tf)):=by
   rw[←List.append_assoc,←List.append_assoc]
   exact List.perm_append_comm.append_right _
  refine p.nodup_iff.mpr (List.nodup_append.mpr ⟨nd,G.nd,fun a ha b hb e=>?_⟩)
  subst e
  obtain⟨o,q,_⟩:=G.trk a hb
  rw[nw a ha]at q;cases q
 own:=fun a ha=>by
  rcases List.mem_append.mp ha with z | z
  ·exact G.own a (List.mem_append_left _ z)
  ·rcases List.mem_append.mp z with z | z
   ·exact G.fr.fresh (nw a z)
   ·exact G.own a (List.mem_append_right _ z)
 trk:=fun a ha=>by
  rcases List.mem_append.mp ha with z | z
  ·obtain⟨o,q,mu⟩:=G.trk a (List.mem_append_left _ z)
   exact⟨o,h _ _ q,mu⟩
  ·rcases List.mem_append.mp z with z | z
   ·exact tk a z
   ·obtain⟨o,q,mu⟩:=G.trk a (List.mem_append_right _ z)
    exact⟨o,h _ _ q,mu⟩
 fr:=G.fr.le h
 lk:=fun a ha=>let ⟨ob,u,e⟩:=G.lk a ha;⟨ob,u,h _ _ e⟩
theorem Good.le' (G:Good C fs env σ H tf) (h:Le H H'):Good C fs env σ H' tf:=G.grow (fp:=[]) h .nil (fun _ z=>nomatch z) fun _ z=>nomatch z
theorem Good.sub {tf':List Addr} (G:Good C fs env σ H tf) (h:tf'.Sublist tf):Good C fs env σ H tf' where
 le:=G.le
 lf:=G.lf
 rep:=G.rep
 nd:=G.nd.sublist ((List.Sublist.refl _).append h)
 own:=fun a ha=>G.own a (by
  rcases List.mem_append.mp ha with z | z
  ·exact List.mem_append_left _ z
  ·exact List.mem_append_right _ (h.subset z))
 trk:=fun a ha=>G.trk a (by
  rcases List.mem_append.mp ha with z | z
  ·exact List.mem_append_left _ z
  ·exact List.mem_append_right _ (h.subset z))
 fr:=G.fr
 lk:=G.lk
theorem Good.drop (G:Good C fs env σ H (own++tf)):Good C fs env σ H tf:=G.sub (List.sublist_append_right _ _)
theorem Step.grow (G:Good C fs env σ H tf) (h:Le H H'):Step M tf fs env H fs env H' :=
 ⟨fun a ha=>h.at (G.trk a (List.mem_append_right _ ha)),fun _ _=>rfl,fun _ _=>rfl,fun i _ a ha=>h.at (G.trk a (List.mem_append_left _ (QQ ha))),h.mono⟩
theorem In.keep (hi:In Rs own fs fp) (s:Step M (own++tf) fs env H1 fs' env' H2) (hd:∀r∈Rs,r∉M):∀a∈fp,H2 a=H1 a:=fun a ha=>by
 rcases hi a ha with z | ⟨r,hr,z⟩
 ·exact s.t a (List.mem_append_left _ z)
 ·exact s.h r (hd r hr) a z
theorem In.step {own2:List Addr} (hi:In Rs own fs fp) (s:Step M (own++tf) fs env H1 fs' env' H2) (hd:∀r∈Rs,r∉M):In Rs (own2++own) fs' fp:=fun a ha=>by
 rcases hi a ha with z | ⟨r,hr,z⟩
 ·exact .inl (List.mem_append_right _ z)
 ·exact .inr ⟨r,hr,by rw[s.f r (hd r hr)];exact z⟩
theorem In.mono {Rs':List Nat} {own':List Addr} (hi:In Rs own fs fp) (h:∀r∈Rs,r∈Rs') (ho:∀a∈own,a∈own'):In Rs' own' fs fp:=fun a ha=>by
 rcases hi a ha with z | ⟨r,hr,z⟩
 ·exact .inl (ho a z)
 ·exact .inr ⟨r,h r hr,z⟩
end
def djB (Rs M:List Nat):Bool:=Rs.all fun r=>!M.contains r
theorem Jaf {Rs M:List Nat} (h:djB Rs M=true):∀r∈Rs,r∉M:=fun r hr hm=>by
 have:=List.all_eq_true.mp h r hr
 simp[hm]at this
section
variable {X:Cx} {W:WX} {M M1 M2 Rs R1 R2:List Nat} {e a b:Expr} {es:List Expr} {ca cb:CE} {cs:CA}
theorem SO.sb (h:SO X W M e ca):SB X W M [] e ca:=by
 obtain⟨t,p,q⟩:=h.go
 refine⟨t,p,fun C fs env σ H tf Q hC G po=>q C fs env σ H tf Q hC G ?_⟩
 cases e1:ca env with
 | ok d env' =>
  rw[e1]at po
  exact fun v fs' H' fp G' s r=>po v fs' H' fp fp G' s r fun x hx=>.inl hx
 | ex x env'=>rw[e1]at po;exact po
 | err=>rw[e1]at po;exact po
def cImm (c:CE):CE:=fun env=>(c env).bind fun d env=>if d.imm then .ok d env else .err
theorem SB.imm (h:SB X W M Rs e ca):SO X W M e (cImm ca):=by
 obtain⟨t,p,q⟩:=h.go
 refine⟨t,p,fun C fs env σ H tf Q hC G po=>q C fs env σ H tf Q hC G ?_⟩
 unfold cImm at po
 cases e1:ca env with
 | ok d env' =>
  rw[e1]at po
  intro v fs' H' fp own G' s r hi
  have po':Ut W C M tf fs env σ H Q (if d.imm then .ok d env' else .err):=po
  by_cases hd:d.imm=true
  ·rw[if_pos hd]at po'
   have z:=r.imm hd
   subst z
   exact po' v fs' H' [] (by simpa using G'.drop) s r
  ·rw[if_neg hd]at po';exact po'.elim
 | ex x env'=>rw[e1]at po;exact po
 | err=>rw[e1]at po;exact po
def cNil:CA:=fun env=>.ok [] env
def Jb (c:CE) (cs:CA):CA:=fun env=>(c env).bind fun d env=>(cs env).bind fun ds env=>.ok (d::ds) env
theorem Jt:SA X W [] [] [] cNil:=by
 refine⟨tNil,pa_nil,fun C fs env σ H tf Q hC G po=>?_⟩
 exact po [] fs H [] [] (by simpa using G) .refl ⟨rfl,rfl⟩ fun _ z=>nomatch z
theorem Jg (ha:SB X W M1 R1 a ca) (hr:SA X W M2 R2 es cs) (hd:djB R1 M2=true:=by decide) (hs:starEach (a::es) X.env=(false,eval a X.env)::starEach es X.env:=by rfl) :
  SA X W (M1++M2) (R1++R2) (a::es) (Jb ca cs):=by
 obtain⟨t,p,q⟩:=ha.go
 obtain⟨t2,p2,q2⟩:=hr.go
 refine⟨tCons t t2,pa_cons p p2 hs,fun C fs env σ H tf Q hC G po=>?_⟩
 refine q C fs env σ H tf _ hC G ?_
 unfold Jb at po
 cases e1:ca env with
 | err=>rw[e1]at po;exact po
 | ex x env' =>
  rw[e1]at po
  exact fun cv dd fs' H' G' s=>po cv dd fs' H' G' (s.weak (fun i hi=>List.mem_append_left _ hi) fun _ z=>z)
 | ok d env1 =>
  rw[e1]at po
  intro v fs1 H1 fp1 own1 G1 s1 r1 i1
  refine q2 C fs1 env1 σ H1 (own1++tf) _ hC G1 ?_
  have po':JiL W C (M1++M2) (R1++R2) tf fs env σ H Q ((cs env1).bind fun ds env=>.ok (d::ds) env):=po
  cases e2:cs env1 with
  | err=>rw[e2]at po';exact po'
  | ex x env' =>
   rw[e2]at po'
   exact fun cv dd fs' H' G' s=>po' cv dd fs' H' G'.drop (s1.trans (s.weak (fun _ z=>z) fun x hx=>List.mem_append_right _ hx))
  | ok ds env2 =>
   rw[e2]at po'
   intro vs fs2 H2 fp2 own2 G2 s2 r2 i2
   have po2:∀vs fs' H' fp own,Good C fs' env2 σ H' (own++tf)→Step (M1++M2) tf fs env H fs' env2 H'→Reps C H' (d::ds) vs fp→In (R1++R2) own fs' fp→Q vs H':=po'
   have k1:=i1.keep s2 (Jaf hd)
   refine po2 (v::vs) fs2 H2 (fp1++fp2) (own2++own1) (by rw[List.append_assoc];exact G2) (s1.trans (s2.weak (fun _ z=>z) fun x hx=>List.mem_append_right _ hx)) ⟨v,vs,fp1,fp2,rfl,r1.keep k1 s2.m,r2,rfl⟩ ?_
   intro x hx
   rcases List.mem_append.mp hx with z | z
   ·exact(i1.step (own2:=own2) s2 (Jaf hd)).mono (fun r hr=>List.mem_append_left _ hr) (fun _ z=>z) x z
   ·exact i2.mono (fun r hr=>List.mem_append_right _ hr) (fun _ z=>List.mem_append_left _ z) x z
end
end VS
namespace VS
open PySem L2
section
variable {X:Cx} {W:WX} {M M1 M2 M3 Rs R1 R2 R3:List Nat} {e a b c:Expr} {es:List Expr} {ca cb cc:CE} {cs:CA} {pos:Pos}
def cVar (i:Nat):CE:=fun env=>match env[i]? with
 | some (some d)=>.ok d env
 | _=>.err
theorem Ja (i:Nat) {x:Str} (hN:X.N[i]?=some x:=by rfl) (hv:Vis X.env.scope x:=by first | exact Or.inl rfl | exact Or.inr (Or.inl rfl) | exact Or.inr (Or.inr rfl)) (hd:(x == ("__debug__" : Str))=false:=by decide)
  (hcd:(x == ("__classdict__" : Str))=false:=by decide):SB X W [] [i] (.Name x pos) (cVar i):=by
 refine⟨tVar i,pe_var hN hv hd hcd,fun C fs env σ H tf Q hC G po=>?_⟩
 unfold cVar at po
 split at po
 ·rename_i d e1
  obtain⟨v,e2,r⟩:=G.rep i d e1
  exact⟨v,e2,po v fs H _ [] (by simpa using G) .refl r fun a ha=>.inr ⟨i,by simp,ha⟩⟩
 ·exact po.elim
def cMv (i:Nat):CE:=fun env=>match env[i]? with
 | some (some d)=>.ok d (env.set i none)
 | _=>.err
theorem Good.mv {C:Ctx} {fs:FPs} {env:Env} {σ:St} {H:Hp} {tf:List Addr} {i:Nat} {d:D} (G:Good C fs env σ H tf) (h:env[i]?=some (some d)) :
  Good C (fs.set i []) (env.set i none) σ H (fs.getD i []++tf):=by
 have hl:=G.lt h
 have p:((fs.set i []).flatten++(fs.getD i []++tf)).Perm (fs.flatten++tf):=by
  rw[←List.append_assoc]
  refine List.Perm.append_right _ ?_
  exact(List.perm_append_comm).trans (Jal fs hl).symm
 refine⟨by simpa using G.le,by simpa using G.lf,fun j d' e=>?_,p.nodup_iff.mpr G.nd,fun a ha=>G.own a (p.mem_iff.mp ha),fun a ha=>G.trk a (p.mem_iff.mp ha),G.fr,G.lk⟩
 rw[List.getElem?_set]at e
 by_cases hj:i=j
 ·subst hj;simp at e
 ·rw[if_neg hj]at e
  obtain⟨v,e1,r⟩:=G.rep j d' e
  exact⟨v,e1,by rw[Zl fs i j [] hl,if_neg (Ne.symm hj)];exact r⟩
def cK (d:D):CE:=fun env=>.ok d env
theorem so_k {v:V} {d:D} {t:TE} (p:PE X e t) (ht:∀σ H Q,Q v H→t σ H Q) (hr:∀C H,Rep C H d v []):SO X W [] e (cK d) :=
 ⟨t,p,fun C fs env σ H tf Q hC G po=>ht σ H Q (po v fs H [] (by simpa using G) .refl (hr C H))⟩
theorem Jd {i j}:SO X W [] (.Constant (.int i) j pos) (cK (.int i)):=so_k pe_int (fun _ _ _ h=>h) fun _ _=>⟨rfl,rfl⟩
theorem Qm {b j}:SO X W [] (.Constant (.bool b) j pos) (cK (.bl b)):=so_k pe_bl (fun _ _ _ h=>h) fun _ _=>⟨rfl,rfl⟩
theorem Qh {j}:SO X W [] (.Constant .none j pos) (cK .non):=so_k pe_non (fun _ _ _ h=>h) fun _ _=>⟨rfl,rfl⟩
theorem Qj {x j}:SO X W [] (.Constant (.str x) j pos) (cK (.str x)):=so_k pe_str (fun _ _ _ h=>h) fun _ _=>⟨rfl,rfl⟩
def cTwo (ca cb:CE):Env→R (D × D):=fun env=>(ca env).bind fun x env=>(cb env).bind fun y env=>.ok (x,y) env
def c2 (p:D→D→Option D) (ca cb:CE):CE:=fun env=>(cTwo ca cb env).bind fun xy env=>R.of (p xy.1 xy.2) env
def Jiv (W:WX) (C:Ctx) (M R1 R2:List Nat) (tf:List Addr) (fs:FPs) (env:Env) (σ:St) (H:Hp) (Q:V→V→Hp→Prop):R (D × D)→Prop
 | .ok d env'=>∀x y fs' H' f1 f2 own,Good C fs' env' σ H' (own++tf)→Step M tf fs env H fs' env' H'→Rep C H' d.1 x f1→Rep C H' d.2 y f2→In R1 own fs' f1→In R2 own fs' f2→Q x y H'
 | .ex x env'=>∀cv dd fs' H',Good C fs' env' σ H' tf→Step M tf fs env H fs' env' H'→ExIs C x cv dd H'→W cv dd σ H'
 | .err=>False
theorem JcP (ha:SB X W M1 R1 a ca) (hb:SB X W M2 R2 b cb) (hd:djB R1 M2=true):∃ta tb,PE X a ta∧PE X b tb∧∀C fs env σ H tf Q,C.At X→Good C fs env σ H tf →
  Jiv W C (M1++M2) R1 R2 tf fs env σ H Q (cTwo ca cb env)→ta σ H fun x H1=>tb σ H1 fun y H2=>Q x y H2:=by
 obtain⟨t,p,q⟩:=ha.go
 obtain⟨t2,p2,q2⟩:=hb.go
 refine⟨t,t2,p,p2,fun C fs env σ H tf Q hC G po=>?_⟩
 refine q C fs env σ H tf _ hC G ?_
 unfold cTwo at po
 cases e1:ca env with
 | err=>rw[e1]at po;exact po
 | ex x env' =>
  rw[e1]at po
  exact fun cv dd fs' H' G' s=>po cv dd fs' H' G' (s.weak (fun i hi=>List.mem_append_left _ hi) fun _ z=>z)
 | ok d env1 =>
  rw[e1]at po
  intro v fs1 H1 fp1 own1 G1 s1 r1 i1
  refine q2 C fs1 env1 σ H1 (own1++tf) _ hC G1 ?_
  have po':Jiv W C (M1++M2) R1 R2 tf fs env σ H Q ((cb env1).bind fun y env=>.ok (d,y) env):=po
  cases e2:cb env1 with
  | err=>rw[e2]at po';exact po'
  | ex x env' =>
   rw[e2]at po'
   exact fun cv dd fs' H' G' s=>po' cv dd fs' H' G'.drop (s1.trans (s.weak (fun _ z=>z) fun x hx=>List.mem_append_right _ hx))
  | ok d2 env2 =>
   rw[e2]at po'
   intro v2 fs2 H2 fp2 own2 G2 s2 r2 i2
   have po2:∀x y fs' H' f1 f2 own,Good C fs' env2 σ H' (own++tf)→Step (M1++M2) tf fs env H fs' env2 H'→Rep C H' d x f1→Rep C H' d2 y f2→In R1 own fs' f1→In R2 own fs' f2→Q x y H':=po'
   exact po2 v v2 fs2 H2 fp1 fp2 (own2++own1) (by rw[List.append_assoc];exact G2) (s1.trans (s2.weak (fun _ z=>z) fun x hx=>List.mem_append_right _ hx)) (r1.keep (i1.keep s2 (Jaf hd)) s2.m) r2
    (i1.step (own2:=own2) s2 (Jaf hd)) (i2.mono (fun _ z=>z) fun _ z=>List.mem_append_left _ z)
def JaD (C:Ctx) (H:Hp) (d:D) (Q:VK):Prop:=∀v H' fp,Le H H'→Rep C H' d v fp→fp.Nodup→(∀a∈fp,H a=none)→Q v H'
structure Pr2 (X:Cx) (r:L2.R2) (p:D→D→Option D):Prop where
 run:∀C H x y dx dy fx fy d Q,C.At X→Fr C H→Rep C H dx x fx→Rep C H dy y fy→p dx dy=some d→JaD C H d Q→r x y H Q
structure Pr1 (X:Cx) (r:V→Hp→VK→Prop) (p:D→Option D):Prop where
 run:∀C H x dx fx d Q,C.At X→Fr C H→Rep C H dx x fx→p dx=some d→JaD C H d Q→r x H Q
structure PrL (X:Cx) (r:List V→Hp→VK→Prop) (p:List D→Option D):Prop where
 run:∀C H xs dxs fx d Q,C.At X→Fr C H→Reps C H dxs xs fx→p dxs=some d→JaD C H d Q→r xs H Q
theorem Zb {C:Ctx} {fs fs1:FPs} {env env1:Env} {σ:St} {H H1:Hp} {tf own:List Addr} {d:D} {Q:VK} (G1:Good C fs1 env1 σ H1 (own++tf)) (s1:Step M tf fs env H fs1 env1 H1)
  (po:Ut W C M tf fs env σ H Q (.ok d env1)):JaD C H1 d Q:=fun v H' fp le r nd nw =>
 po v fs1 H' fp (G1.drop.grow le nd nw r.trk) (by
  have:=s1.trans (Step.grow (M:=[]) G1.drop le)
  simpa using this) r
theorem so_op {op:Operator} {r:L2.R2} {p:D→D→Option D} (ho:OpR X (binaryOp op) r) (hp:Pr2 X r p) (ha:SB X W M1 R1 a ca) (hb:SB X W M2 R2 b cb) (hd:djB R1 M2=true:=by decide) :
  SO X W (M1++M2) (.BinOp a op b pos) (c2 p ca cb):=by
 obtain⟨ta,tb,pa,pb,q⟩:=JcP ha hb hd
 refine⟨tOp r ta tb,pe_op ho pa pb,fun C fs env σ H tf Q hC G po=>q C fs env σ H tf _ hC G ?_⟩
 unfold c2 at po
 cases e1:cTwo ca cb env with
 | err=>rw[e1]at po;exact po
 | ex x env'=>rw[e1]at po;exact po
 | ok d env' =>
  rw[e1]at po
  intro x y fs' H' f1 f2 own G' s r1 r2 i1 i2
  have po':Ut W C (M1++M2) tf fs env σ H Q (R.of (p d.1 d.2) env'):=po
  cases e2:p d.1 d.2 with
  | none=>rw[e2]at po';exact po'.elim
  | some z =>
   rw[e2]at po'
   exact hp.run C H' x y d.1 d.2 f1 f2 z Q hC G'.fr r1 r2 e2 (Zb G' s po')
theorem so_cmp {op:CmpOp} {r:L2.R2} {p:D→D→Option D} (ho:OpR X (compareOp op) r) (hp:Pr2 X r p) (ha:SB X W M1 R1 a ca) (hb:SB X W M2 R2 b cb) (hm:behindInMarks op b=false:=by first | exact nomark _ | rfl) (hd:djB R1 M2=true:=by decide) :
  SO X W (M1++M2) (.Compare a [op] [b] pos) (c2 p ca cb):=by
 obtain⟨ta,tb,pa,pb,q⟩:=JcP ha hb hd
 refine⟨tOp r ta tb,pe_cmpR ho pa pb hm,fun C fs env σ H tf Q hC G po=>q C fs env σ H tf _ hC G ?_⟩
 unfold c2 at po
 cases e1:cTwo ca cb env with
 | err=>rw[e1]at po;exact po
 | ex x env'=>rw[e1]at po;exact po
 | ok d env' =>
  rw[e1]at po
  intro x y fs' H' f1 f2 own G' s r1 r2 i1 i2
  have po':Ut W C (M1++M2) tf fs env σ H Q (R.of (p d.1 d.2) env'):=po
  cases e2:p d.1 d.2 with
  | none=>rw[e2]at po';exact po'.elim
  | some z =>
   rw[e2]at po'
   exact hp.run C H' x y d.1 d.2 f1 f2 z Q hC G'.fr r1 r2 e2 (Zb G' s po')
def c1 (p:D→Option D) (ca:CE):CE:=fun env=>(ca env).bind fun x env=>R.of (p x) env
theorem so_un {op:UnaryOp} {r:V→Hp→VK→Prop} {p:D→Option D} (ho:UnR X (unaryOp op) r) (hp:Pr1 X r p) (ha:SB X W M1 R1 a ca):SO X W M1 (.UnaryOp op a pos) (c1 p ca):=by
 obtain⟨ta,pa,q⟩:=ha.go
 refine⟨tUn r ta,pe_un ho pa,fun C fs env σ H tf Q hC G po=>q C fs env σ H tf _ hC G ?_⟩
 unfold c1 at po
 cases e1:ca env with
 | err=>rw[e1]at po;exact po
 | ex x env'=>rw[e1]at po;exact po
 | ok d env' =>
  rw[e1]at po
  intro x fs' H' f1 own G' s r1 i1
  have po':Ut W C M1 tf fs env σ H Q (R.of (p d) env'):=po
  cases e2:p d with
  | none=>rw[e2]at po';exact po'.elim
  | some z =>
   rw[e2]at po'
   exact hp.run C H' x d f1 z Q hC G'.fr r1 e2 (Zb G' s po')
abbrev CT:=Env→R Bool
def JcV (W:WX) (C:Ctx) (M:List Nat) (tf:List Addr) (fs:FPs) (env:Env) (σ:St) (H:Hp) (Q:Bool→Hp→Prop):R Bool→Prop
 | .ok b env'=>∀fs' H',Good C fs' env' σ H' tf→Step M tf fs env H fs' env' H'→Q b H'
 | .ex x env'=>∀cv dd fs' H',Good C fs' env' σ H' tf→Step M tf fs env H fs' env' H'→ExIs C x cv dd H'→W cv dd σ H'
 | .err=>False
structure ST (X:Cx) (W:WX) (M:List Nat) (e:Expr) (c:CT):Prop where
 go:∃t,PT X e t∧∀C fs env σ H tf Q,C.At X→Good C fs env σ H tf→JcV W C M tf fs env σ H Q (c env)→t σ H Q
structure SW (X:Cx) (W:WX) (M:List Nat) (e:Expr) (c:CT):Prop where
 go:∃t,PW X e t∧∀C fs env σ H tf Q,C.At X→Good C fs env σ H tf→JcV W C M tf fs env σ H Q (c env)→t σ H Q
theorem SW.st {c:CT} (h:SW X W M e c):ST X W M e c:=by
 obtain⟨t,p,q⟩:=h.go
 exact⟨t,p.pt,q⟩
def D.tt:D→Option Bool
 | .bl b=>some b
 | _=>none
def cTt (ca:CE):CT:=fun env=>(ca env).bind fun d env=>R.of d.tt env
theorem tt_of {C:Ctx} {H:Hp} {d:D} {v:V} {fp:List Addr} {k:Bool} (r:Rep C H d v fp) (h:d.tt=some k):v=.bl k:=by
 cases d<;>simp[D.tt]at h
 subst h
 exact r.1
theorem Jhz {t:TE} (ht:PT X e (tB t)) (hs:∀C fs env σ H tf Q,C.At X→Good C fs env σ H tf→JfH W C M Rs tf fs env σ H Q (ca env)→t σ H Q):ST X W M e (cTt ca):=by
 refine⟨tB t,ht,fun C fs env σ H tf Q hC G po=>hs C fs env σ H tf _ hC G ?_⟩
 unfold cTt at po
 cases e1:ca env with
 | err=>rw[e1]at po;exact po
 | ex x env'=>rw[e1]at po;exact po
 | ok d env' =>
  rw[e1]at po
  intro x fs' H' f1 own G' s r1 i1
  have po':JcV W C M tf fs env σ H Q (R.of d.tt env'):=po
  cases e2:d.tt with
  | none=>rw[e2]at po';exact po'.elim
  | some k =>
   rw[e2]at po'
   exact⟨k,tt_of r1 e2,po' fs' H' G'.drop s⟩
theorem Uf (h:SB X W M Rs e ca) (he:∀whole,isTrue e X.env whole=(do let v ←whole;standAt e.pos;holding [v] (truthy v)):=by intro _;rfl):ST X W M e (cTt ca):=by
 obtain⟨t,p,q⟩:=h.go
 exact Jhz (pt_val p he) q
theorem Jgu {C:Ctx} {fs:FPs} {env:Env} {σ:St} {H:Hp} {tf:List Addr} {Q:VK} {z:R D} (po:JfH W C M [] tf fs env σ H Q z):Ut W C M tf fs env σ H Q z:=by
 cases z with
 | err=>exact po
 | ex x env'=>exact po
 | ok d env'=>exact fun v fs' H' fp G' s r=>po v fs' H' fp fp G' s r fun x hx=>.inl hx
theorem st_cmp {op:CmpOp} {r:L2.R2} {p:D→D→Option D} (ho:OpR X (compareOp op) r) (hp:Pr2 X r p) (ha:SB X W M1 R1 a ca) (hb:SB X W M2 R2 b cb) (hm:behindInMarks op b=false:=by first | exact nomark _ | rfl) (hd:djB R1 M2=true:=by decide) :
  ST X W (M1++M2) (.Compare a [op] [b] pos) (cTt (c2 p ca cb)):=by
 obtain⟨ta,tb,pa,pb,q⟩:=JcP ha hb hd
 refine Jhz (Rs:=[]) (t:=tOp r ta tb) (pt_cmpR ho pa pb hm) fun C fs env σ H tf Q hC G po=>q C fs env σ H tf _ hC G ?_
 have po:=Jgu po
 unfold c2 at po
 cases e1:cTwo ca cb env with
 | err=>rw[e1]at po;exact po
 | ex x env'=>rw[e1]at po;exact po
 | ok d env' =>
  rw[e1]at po
  intro x y fs' H' f1 f2 own G' s r1 r2 i1 i2
  have po':Ut W C (M1++M2) tf fs env σ H Q (R.of (p d.1 d.2) env'):=po
  cases e2:p d.1 d.2 with
  | none=>rw[e2]at po';exact po'.elim
  | some z =>
   rw[e2]at po'
   exact hp.run C H' x y d.1 d.2 f1 f2 z Q hC G'.fr r1 r2 e2 (Zb G' s po')
def Qk (ca cb:CT):CT:=fun env=>(ca env).bind fun b env=>if b=true then cb env else .ok false env
def tcOr (ca cb:CT):CT:=fun env=>(ca env).bind fun b env=>if b=true then .ok true env else cb env
def Yq (ca:CT):CT:=fun env=>(ca env).bind fun b env=>.ok (!b) env
variable {ta tb:CT}
theorem QB (h:ST X W M a ta):SW X W M (.BoolOp .And [a] pos) ta:=by
 obtain⟨t,p,q⟩:=h.go
 exact⟨t,pw_and1 p,q⟩
theorem QT (h:ST X W M a ta):SW X W M (.BoolOp .Or [a] pos) ta:=by
 obtain⟨t,p,q⟩:=h.go
 exact⟨t,pw_or1 p,q⟩
theorem seqT {C:Ctx} {fs:FPs} {env:Env} {σ:St} {H:Hp} {tf:List Addr} {Q:Bool→Hp→Prop} {f:Bool→CT} {t u:TT} (hC:C.At X) (G:Good C fs env σ H tf)
  (ht:∀C fs env σ H tf Q,C.At X→Good C fs env σ H tf→JcV W C M1 tf fs env σ H Q (ta env)→t σ H Q)
  (po:JcV W C (M1++M2) tf fs env σ H Q ((ta env).bind fun b env=>f b env)) {K:Bool→Hp→Prop}
  (hK:∀b fs1 env1 H1,Good C fs1 env1 σ H1 tf→Step M1 tf fs env H fs1 env1 H1→JcV W C M2 tf fs1 env1 σ H1 Q (f b env1)→K b H1):t σ H K:=by
 refine ht C fs env σ H tf _ hC G ?_
 cases e1:ta env with
 | err=>rw[e1]at po;exact po
 | ex x env' =>
  rw[e1]at po
  exact fun cv dd fs' H' G' s=>po cv dd fs' H' G' (s.weak (fun i hi=>List.mem_append_left _ hi) fun _ z=>z)
 | ok d env1 =>
  rw[e1]at po
  intro fs1 H1 G1 s1
  refine hK d fs1 env1 H1 G1 s1 ?_
  have po':JcV W C (M1++M2) tf fs env σ H Q (f d env1):=po
  cases e2:f d env1 with
  | err=>rw[e2]at po';exact po'
  | ex x env' =>
   rw[e2]at po'
   exact fun cv dd fs' H' G' s=>po' cv dd fs' H' G' (s1.trans s)
  | ok d2 env2 =>
   rw[e2]at po'
   exact fun fs2 H2 G2 s2=>po' fs2 H2 G2 (s1.trans s2)
theorem QX (ha:ST X W M1 a ta) (hb:SW X W M2 (.BoolOp .And (b::es) pos) tb):SW X W (M1++M2) (.BoolOp .And (a::b::es) pos) (Qk ta tb):=by
 obtain⟨t,p,q⟩:=ha.go
 obtain⟨t2,p2,q2⟩:=hb.go
 refine⟨tAnd t t2,pw_and p p2,fun C fs env σ H tf Q hC G po=>?_⟩
 refine seqT (M1:=M1) (M2:=M2) (ta:=ta) (f:=fun b env=>if b=true then tb env else .ok false env) (u:=t2) hC G q po fun b fs1 env1 H1 G1 s1 po1=>?_
 cases b with
 | true=>exact q2 C fs1 env1 σ H1 tf Q hC G1 po1
 | false=>exact po1 fs1 H1 G1 .refl
theorem Qe (ha:ST X W M1 a ta) (hb:SW X W M2 (.BoolOp .Or (b::es) pos) tb):SW X W (M1++M2) (.BoolOp .Or (a::b::es) pos) (tcOr ta tb):=by
 obtain⟨t,p,q⟩:=ha.go
 obtain⟨t2,p2,q2⟩:=hb.go
 refine⟨tOr t t2,pw_or p p2,fun C fs env σ H tf Q hC G po=>?_⟩
 refine seqT (M1:=M1) (M2:=M2) (ta:=ta) (f:=fun b env=>if b=true then .ok true env else tb env) (u:=t2) hC G q po fun b fs1 env1 H1 G1 s1 po1=>?_
 cases b with
 | false=>exact q2 C fs1 env1 σ H1 tf Q hC G1 po1
 | true=>exact po1 fs1 H1 G1 .refl
theorem UC (ha:ST X W M a ta):ST X W M (.UnaryOp .Not a pos) (Yq ta):=by
 obtain⟨t,p,q⟩:=ha.go
 refine⟨tNot t,pt_not p,fun C fs env σ H tf Q hC G po=>q C fs env σ H tf _ hC G ?_⟩
 unfold Yq at po
 cases e1:ta env with
 | err=>rw[e1]at po;exact po
 | ex x env'=>rw[e1]at po;exact po
 | ok d env'=>rw[e1]at po;exact po
end
end VS
namespace VS
open PySem L2 SeqAt
def rD2 (X:Cx) (p:D→D→Option D):L2.R2:=fun x y H Q=>∃C dx dy fx fy d,Ctx.At C X∧Fr C H∧Rep C H dx x fx∧Rep C H dy y fy∧p dx dy=some d∧JaD C H d Q
def rD1 (X:Cx) (p:D→Option D):V→Hp→VK→Prop:=fun x H Q=>∃C dx fx d,Ctx.At C X∧Fr C H∧Rep C H dx x fx∧p dx=some d∧JaD C H d Q
def rDL (X:Cx) (p:List D→Option D):List V→Hp→VK→Prop:=fun xs H Q=>∃C dxs fx d,Ctx.At C X∧Fr C H∧Reps C H dxs xs fx∧p dxs=some d∧JaD C H d Q
theorem Jgf {X:Cx} {p}:Pr2 X (rD2 X p) p:=⟨fun C H x y dx dy fx fy d Q hC hF rx ry e k=>⟨C,dx,dy,fx,fy,d,hC,hF,rx,ry,e,k⟩⟩
theorem pr1_rd {X:Cx} {p}:Pr1 X (rD1 X p) p:=⟨fun C H x dx fx d Q hC hF rx e k=>⟨C,dx,fx,d,hC,hF,rx,e,k⟩⟩
abbrev OD2 (X:Cx) (f:Value→Value→Sem Value) (p:D→D→Option D):Prop:=OpR X f (rD2 X p)
abbrev OD1 (X:Cx) (f:Value→Sem Value) (p:D→Option D):Prop:=UnR X f (rD1 X p)
abbrev ODL (X:Cx) (f:Value) (p:List D→Option D):Prop:=CallR X f (rDL X p)
theorem OD2.of {X:Cx} {f r p} (h:OpR X f r) (hp:∀x y H Q,rD2 X p x y H Q→r x y H Q):OD2 X f p:=fun pins s σ H x y v u Q I rx ry q=>h pins s σ H x y v u Q I rx ry (hp _ _ _ _ q)
theorem OD1.of {X:Cx} {f r p} (h:UnR X f r) (hp:∀x H Q,rD1 X p x H Q→r x H Q):OD1 X f p:=fun pins s σ H x v Q I rx q=>h pins s σ H x v Q I rx (hp _ _ _ q)
theorem ODL.of {X:Cx} {f r p} (h:CallR X f r) (hp:∀xs H Q,rDL X p xs H Q→r xs H Q):ODL X f p:=fun pins s σ H xs us Q I rx q=>h pins s σ H xs us Q I rx (hp _ _ _ q)
def orP2 (p q:D→D→Option D):D→D→Option D:=fun x y=>(p x y).or (q x y)
theorem OD2.or {X:Cx} {f p q} (h:OD2 X f p) (h':OD2 X f q):OD2 X f (orP2 p q):=by
 intro pins s σ H x y v u Q I rx ry ⟨C,dx,dy,fx,fy,d,hC,hF,r1,r2,e,k⟩
 unfold orP2 at e
 cases e1:p dx dy with
 | some z =>
  rw[e1]at e
  have e2:z=d:=Option.some.inj e
  subst e2
  exact h pins s σ H x y v u Q I rx ry ⟨C,dx,dy,fx,fy,z,hC,hF,r1,r2,e1,k⟩
 | none=>rw[e1]at e;exact h' pins s σ H x y v u Q I rx ry ⟨C,dx,dy,fx,fy,d,hC,hF,r1,r2,e,k⟩
theorem JaD.here {C:Ctx} {H:Hp} {d:D} {Q:VK} (k:JaD C H d Q) {v:V} (r:Rep C H d v []):Q v H:=k v H [] (Le.refl H) r .nil (fun _ z=>nomatch z)
section
variable {X:Cx} {W:WX} {M M1 M2 M3 Rs R1 R2 R3:List Nat} {e a b c:Expr} {es:List Expr} {ca cb cc:CE} {cs:CA} {pos:Pos}
theorem JA {op:Operator} {p:D→D→Option D} (ho:OD2 X (binaryOp op) p) (ha:SB X W M1 R1 a ca) (hb:SB X W M2 R2 b cb) (hd:djB R1 M2=true:=by decide):SO X W (M1++M2) (.BinOp a op b pos) (c2 p ca cb):=so_op ho Jgf ha hb hd
theorem YG {op:CmpOp} {p:D→D→Option D} (ho:OD2 X (compareOp op) p) (ha:SB X W M1 R1 a ca) (hb:SB X W M2 R2 b cb) (hm:behindInMarks op b=false:=by first | exact nomark _ | rfl) (hd:djB R1 M2=true:=by decide) :
  SO X W (M1++M2) (.Compare a [op] [b] pos) (c2 p ca cb):=so_cmp ho Jgf ha hb hm hd
theorem Jv {op:CmpOp} {p:D→D→Option D} (ho:OD2 X (compareOp op) p) (ha:SB X W M1 R1 a ca) (hb:SB X W M2 R2 b cb) (hm:behindInMarks op b=false:=by first | exact nomark _ | rfl) (hd:djB R1 M2=true:=by decide) :
  ST X W (M1++M2) (.Compare a [op] [b] pos) (cTt (c2 p ca cb)):=st_cmp ho Jgf ha hb hm hd
def pI (c:Int→Int→Bool) (g:Int→Int→Int):D→D→Option D
 | .int i,.int j=>if c i j then some (.int (g i j)) else none
 | _,_=>none
def pIB (g:Int→Int→Bool):D→D→Option D
 | .int i,.int j=>some (.bl (g i j))
 | _,_=>none
theorem Jhi {c g dx dy d} (h:pI c g dx dy=some d):∃i j,dx=.int i∧dy=.int j∧c i j=true∧d=.int (g i j):=by
 unfold pI at h
 split at h
 ·rename_i i j
  split at h
  ·rename_i hc;cases h;exact⟨i,j,rfl,rfl,hc,rfl⟩
  ·cases h
 ·cases h
theorem pIB_inv {g dx dy d} (h:pIB g dx dy=some d):∃i j,dx=.int i∧dy=.int j∧d=.bl (g i j):=by
 unfold pIB at h
 split at h
 ·rename_i i j;cases h;exact⟨i,j,rfl,rfl,rfl⟩
 ·cases h
theorem JeX {f:Value→Value→Sem Value} {Cc:Int→Int→Prop} {c:Int→Int→Bool} {g:Int→Int→Int} (h:OpR X f (rI Cc fun i j=>.int (g i j))) (hc:∀i j,c i j=true→Cc i j):OD2 X f (pI c g):=by
 refine OD2.of h fun x y H Q ⟨C,dx,dy,fx,fy,d,hC,hF,r1,r2,e,k⟩=>?_
 obtain⟨i,j,rfl,rfl,h1,rfl⟩:=Jhi e
 obtain⟨rfl,_⟩:=r1
 obtain⟨rfl,_⟩:=r2
 exact⟨i,j,rfl,rfl,hc i j h1,k.here ⟨rfl,rfl⟩⟩
theorem JgK {f:Value→Value→Sem Value} {g:Int→Int→Int} (h:OpR X f (rI0 fun i j=>.int (g i j))):OD2 X f (pI (fun _ _=>true) g):=by
 refine OD2.of h fun x y H Q ⟨C,dx,dy,fx,fy,d,hC,hF,r1,r2,e,k⟩=>?_
 obtain⟨i,j,rfl,rfl,h1,rfl⟩:=Jhi e
 obtain⟨rfl,_⟩:=r1
 obtain⟨rfl,_⟩:=r2
 exact⟨i,j,rfl,rfl,k.here ⟨rfl,rfl⟩⟩
theorem Jfk {f:Value→Value→Sem Value} {g:Int→Int→Bool} (h:OpR X f (rI0 fun i j=>.bl (g i j))):OD2 X f (pIB g):=by
 refine OD2.of h fun x y H Q ⟨C,dx,dy,fx,fy,d,hC,hF,r1,r2,e,k⟩=>?_
 obtain⟨i,j,rfl,rfl,rfl⟩:=pIB_inv e
 obtain⟨rfl,_⟩:=r1
 obtain⟨rfl,_⟩:=r2
 exact⟨i,j,rfl,rfl,k.here ⟨rfl,rfl⟩⟩
abbrev Jfq:=pI (fun _ _=>true) (fun i j=>i+j)
abbrev pSub:=pI (fun _ _=>true) (fun i j=>i - j)
abbrev QM:=pI (fun i j=>decide (-(2 ^ 64) < i∧i < 2 ^ 64) || decide (-(2 ^ 64) < j∧j < 2 ^ 64)) (fun i j=>i * j)
abbrev pDiv:=pI (fun _ j=>decide (0 < j∧j < 2 ^ 64)) (fun i j=>i / j)
abbrev pMod:=pI (fun _ j=>decide (0 < j)) (fun i j=>i % j)
abbrev pPow:=pI (fun i j=>decide (0≤j∧j≤1000000∧i.natAbs < 2 ^ 64)) (fun i j=>i ^ j.toNat)
theorem od_addI:OD2 X (binaryOp .Add) Jfq:=JgK op_add
theorem Jax:OD2 X (binaryOp .Sub) pSub:=JgK op_sub
theorem Qq:OD2 X (binaryOp .Mult) QM:=JeX op_mul fun i j h=>by
 rcases Bool.or_eq_true_iff.mp h with z | z
 ·exact .inl (of_decide_eq_true z)
 ·exact .inr (of_decide_eq_true z)
theorem Jgh:OD2 X (binaryOp .FloorDiv) pDiv:=JeX op_fdivW fun i j h=>by
 obtain⟨h1,h2⟩:=of_decide_eq_true h
 refine wide_div (b:=64) h1 ?_ (by decide) (by decide)
 omega
theorem JaZ:OD2 X (binaryOp .Mod) pMod:=JeX op_mod fun i j h=>of_decide_eq_true h
theorem Jee:OD2 X (binaryOp .Pow) pPow:=JeX op_pow fun i j h=>by
 have z:=of_decide_eq_true h
 exact z
abbrev pLtI:=pIB fun i j=>decide (i < j)
abbrev pLeI:=pIB fun i j=>decide (i≤j)
abbrev pGtI:=pIB fun i j=>decide (j < i)
abbrev pGeI:=pIB fun i j=>decide (j≤i)
theorem od_ltI:OD2 X (compareOp .Lt) pLtI:=Jfk op_lt
theorem od_leI:OD2 X (compareOp .LtE) pLeI:=Jfk op_le
theorem od_gtI:OD2 X (compareOp .Gt) pGtI:=Jfk op_gt
theorem od_geI:OD2 X (compareOp .GtE) pGeI:=Jfk op_ge
def pNeg:D→Option D
 | .int i=>some (.int (-i))
 | _=>none
theorem od_neg:OD1 X (unaryOp .USub) pNeg:=by
 refine OD1.of un_neg fun x H Q ⟨C,dx,fx,d,hC,hF,r1,e,k⟩=>?_
 cases dx<;>simp[pNeg]at e
 subst e
 obtain⟨rfl,_⟩:=r1
 exact⟨_,rfl,k.here ⟨rfl,rfl⟩⟩
theorem Zf (ha:SB X W M R1 a ca):SO X W M (.UnaryOp .USub a pos) (c1 pNeg ca):=so_un od_neg pr1_rd ha
mutual
def pyEq:D→D→Bool
 | .non,.non=>true
 | .bl a,.bl b=>a == b
 | .bl a,.int j=>(if a then 1 else 0) == j
 | .int i,.bl b=>i == (if b then 1 else 0)
 | .int i,.int j=>i == j
 | .str x,.str y=>x == y
 | .lst _ xs,.lst _ ys=>pyEqs xs ys
 | .tup xs,.tup ys=>pyEqs xs ys
 | _,_=>false
def pyEqs:List D→List D→Bool
 | [],[]=>true
 | x::xs,y::ys=>pyEq x y && pyEqs xs ys
 | _,_=>false
end
mutual
def eqOk:Nat→D→Bool
 | _,.non=>true
 | _,.bl _=>true
 | _,.int _=>true
 | _,.str _=>true
 | n+1,.lst _ ds=>eqOks n ds
 | n+1,.tup ds=>eqOks n ds
 | _,_=>false
def eqOks:Nat→List D→Bool
 | _,[]=>true
 | n,d::ds=>eqOk n d && eqOks n ds
end
theorem Jz {C:Ctx} {H:Hp}:∀{ds:List D} {vs:List V} {fp:List Addr},Reps C H ds vs fp→ds.length=vs.length
 | [],vs,fp,⟨h,_⟩=>by rw[h];rfl
 | d::ds,vs,fp,⟨v,vs',f1,f2,e,r,rs,_⟩=>by rw[e];simp[Jz rs]
theorem Jbm {C:Ctx} {H:Hp}:∀{ds:List D} {vs:List V} {fp:List Addr} {i:Nat} {d:D},Reps C H ds vs fp→ds[i]?=some d→∃v g1 f g2,vs[i]?=some v∧Rep C H d v f∧fp=g1++f++g2
 | [],vs,fp,i,d,_,h=>by simp at h
 | d0::ds,vs,fp,0,d,⟨v,vs',f1,f2,e,r,rs,e2⟩,h=>by
  simp at h;subst h;subst e;exact⟨v,[],f1,f2,by simp,r,by simpa using e2⟩
 | d0::ds,vs,fp,i+1,d,⟨v,vs',f1,f2,e,r,rs,e2⟩,h=>by
  subst e
  obtain⟨w,g1,f,g2,h1,h2,h3⟩:=Jbm (i:=i) rs (by simpa using h)
  exact⟨w,f1++g1,f,g2,by simpa using h1,h2,by rw[e2,h3];simp[List.append_assoc]⟩
theorem JaR:∀{xs ys:List D},xs.length≠ys.length→pyEqs xs ys=false
 | [],[],h=>absurd rfl h
 | [],_::_,_=>by simp[pyEqs]
 | _::_,[],_=>by simp[pyEqs]
 | x::xs,y::ys,h=>by rw[pyEqs,JaR (xs:=xs) (ys:=ys) (by simpa using h),Bool.and_false]
def JaT (xs ys:List D) (j:Nat):Bool:=match xs[j]?,ys[j]? with
 | some x,some y=>pyEq x y
 | _,_=>false
theorem JaV:∀{xs ys:List D},xs.length=ys.length→((List.range xs.length).all fun j=>JaT xs ys j)=pyEqs xs ys
 | [],[],_=>by simp[pyEqs]
 | x::xs,y::ys,h=>by
  rw[List.length_cons,List.range_succ_eq_map,List.all_cons,List.all_map,pyEqs]
  have e0:JaT (x::xs) (y::ys) 0=pyEq x y:=rfl
  have e1:((fun j=>JaT (x::xs) (y::ys) j)∘Nat.succ)=fun j=>JaT xs ys j:=by funext j;simp[JaT]
  rw[e0,e1,JaV (xs:=xs) (ys:=ys) (by simpa using h)]
variable {pins:List (Addr × Obj)} {σ:St} {H:Hp} {s:Shared} {C:Ctx}
theorem JF {g ds v fp} (hC:C.At X) (hF:Fr C H) (r:Rep C H (.lst g ds) v fp):∃a vs f,v=.ref a∧SqL X.K H a vs∧Reps C H ds vs f:=by
 obtain⟨a,vs,f1,f2,e,n,r,_,_⟩:=r
 exact⟨a,vs,f2,e,by have:=(Nd.rd n hF).sql;rwa[hC.1]at this,r⟩
theorem Yg {ds v fp} (hC:C.At X) (r:Rep C H (.tup ds) v fp):∃a vs,v=.ref a∧SqT X.K H a vs∧Reps C H ds vs fp:=by
 obtain⟨a,vs,e,n,r⟩:=r
 exact⟨a,vs,e,by rwa[hC.1]at n,r⟩
theorem ltu (I:Inv X pins σ H s) {a:Addr} {xs ys:List V} (h:SqL X.K H a xs) (h':SqT X.K H a ys):False:=by
 obtain⟨its,_,p,_⟩:=I.list h
 obtain⟨its',_,p',_⟩:=I.tuple h'
 obtain⟨o,n,e,c,_,_⟩:=p
 obtain⟨o',e',c',_⟩:=p'
 rw[e]at e';cases e'
 rw[c]at c'
 exact absurd c' (by decide)
mutual
theorem JeN (I:Inv X pins σ H s) (hC:C.At X) (hF:Fr C H):∀(d e:D) (n:Nat) (v:V) (f1 f2:List Addr),eqOk n d=true→eqOk n e=true→Rep C H d v f1→Rep C H e v f2→pyEq d e=true
 | .non,e,n,v,f1,f2,o1,o2,r1,r2=>by
  obtain⟨rfl,_⟩:=r1
  cases e<;>(try (simp[eqOk]at o2;done))<;>simp[Rep]at r2<;>first | rfl | exact absurd r2.1 (by simp)
 | .bl b,e,n,v,f1,f2,o1,o2,r1,r2=>by
  obtain⟨rfl,_⟩:=r1
  cases e<;>(try (simp[eqOk]at o2;done))<;>simp[Rep]at r2
  simp[pyEq,r2.1]
 | .int i,e,n,v,f1,f2,o1,o2,r1,r2=>by
  obtain⟨rfl,_⟩:=r1
  cases e<;>(try (simp[eqOk]at o2;done))<;>simp[Rep]at r2
  simp[pyEq,r2.1]
 | .str i,e,n,v,f1,f2,o1,o2,r1,r2=>by
  obtain⟨rfl,_⟩:=r1
  cases e<;>(try (simp[eqOk]at o2;done))<;>simp[Rep]at r2
  simp[pyEq,r2.1]
 | .ty i,e,n,v,f1,f2,o1,o2,r1,r2=>by simp[eqOk]at o1
 | .ftu _,e,n,v,f1,f2,o1,o2,r1,r2=>by simp[eqOk]at o1
 | .dct _ _ _,e,n,v,f1,f2,o1,o2,r1,r2=>by simp[eqOk]at o1
 | .obj _ _ _ _,e,n,v,f1,f2,o1,o2,r1,r2=>by simp[eqOk]at o1
 | .exc _ _ _,e,n,v,f1,f2,o1,o2,r1,r2=>by simp[eqOk]at o1
 | .lst g ds,e,n,v,f1,f2,o1,o2,r1,r2=>by
  obtain⟨a,vs,f,rfl,q,rs⟩:=JF hC hF r1
  cases n with
  | zero=>simp[eqOk]at o1
  | succ n =>
   cases e with
   | lst g2 es =>
    obtain⟨b,ws,f',e1,q2,rs2⟩:=JF hC hF r2
    cases e1
    rw[I.list_inj q2 q]at rs2
    exact eqs_same I hC hF ds es n vs f f' (by simpa [eqOk] using o1) (by simpa [eqOk] using o2) rs rs2
   | tup es =>
    obtain⟨b,ws,e1,q2,rs2⟩:=Yg hC r2
    cases e1
    exact(ltu I q q2).elim
   | ty _=>simp[eqOk]at o2
   | ftu _=>simp[eqOk]at o2
   | dct _ _ _=>simp[eqOk]at o2
   | obj _ _ _ _=>simp[eqOk]at o2
   | exc _ _ _=>simp[eqOk]at o2
   | _=>simp[Rep]at r2
 | .tup ds,e,n,v,f1,f2,o1,o2,r1,r2=>by
  obtain⟨a,vs,rfl,q,rs⟩:=Yg hC r1
  cases n with
  | zero=>simp[eqOk]at o1
  | succ n =>
   cases e with
   | tup es =>
    obtain⟨b,ws,e1,q2,rs2⟩:=Yg hC r2
    cases e1
    rw[I.tuple_inj q2 q]at rs2
    exact eqs_same I hC hF ds es n vs f1 f2 (by simpa [eqOk] using o1) (by simpa [eqOk] using o2) rs rs2
   | lst g es =>
    obtain⟨b,ws,f,e1,q2,rs2⟩:=JF hC hF r2
    cases e1
    exact(ltu I q2 q).elim
   | ty _=>simp[eqOk]at o2
   | ftu _=>simp[eqOk]at o2
   | dct _ _ _=>simp[eqOk]at o2
   | obj _ _ _ _=>simp[eqOk]at o2
   | exc _ _ _=>simp[eqOk]at o2
   | _=>simp[Rep]at r2
theorem eqs_same (I:Inv X pins σ H s) (hC:C.At X) (hF:Fr C H):∀(ds es:List D) (n:Nat) (vs:List V) (f1 f2:List Addr),eqOks n ds=true→eqOks n es=true→Reps C H ds vs f1→Reps C H es vs f2→pyEqs ds es=true
 | [],es,n,vs,f1,f2,o1,o2,r1,r2=>by
  have:=Jz r1
  have h2:=Jz r2
  cases es with
  | nil=>rfl
  | cons e es=>simp at this h2;omega
 | d::ds,[],n,vs,f1,f2,o1,o2,r1,r2=>by
  have:=Jz r1
  have h2:=Jz r2
  simp at this h2;omega
 | d::ds,e::es,n,vs,f1,f2,o1,o2,⟨v,vs',g1,g2,e1,r1,rs1,_⟩,⟨w,ws',k1,k2,e2,r2,rs2,_⟩=>by
  rw[e1]at e2;cases e2
  simp only[eqOks,Bool.and_eq_true]at o1 o2
  rw[pyEqs,JeN I hC hF d e n v g1 k1 o1.1 o2.1 r1 r2,eqs_same I hC hF ds es n vs' g2 k2 o1.2 o2.2 rs1 rs2];rfl
end
theorem Zx {ds:List D} {vs:List V} {us:List Value} {fp} (r:Reps C H ds vs fp) (rv:Vals vs us):ds.length=us.length:=(Jz r).trans rv.length
section
open SeqAt
mutual
theorem Jgg (I:Inv X pins σ H s) (hC:C.At X) (hF:Fr C H):∀(d e:D) (n:Nat) (A:Around) (v w:V) (f1 f2:List Addr) (u u':Value),eqOk n d=true→eqOk n e=true→Rep C H d v f1→Rep C H e w f2→RelV v u→RelV w u'→A.units+n+1 < cLine →
  RcAt A s u u' (pyEq d e)∧EqAt A s u u' (pyEq d e)
 | .ty i,e,n,A,v,w,f1,f2,u,u',o1,o2,r1,r2,q1,q2,hu=>by simp[eqOk]at o1
 | .ftu _,e,n,A,v,w,f1,f2,u,u',o1,o2,r1,r2,q1,q2,hu=>by simp[eqOk]at o1
 | .dct _ _ _,e,n,A,v,w,f1,f2,u,u',o1,o2,r1,r2,q1,q2,hu=>by simp[eqOk]at o1
 | .obj _ _ _ _,e,n,A,v,w,f1,f2,u,u',o1,o2,r1,r2,q1,q2,hu=>by simp[eqOk]at o1
 | .exc _ _ _,e,n,A,v,w,f1,f2,u,u',o1,o2,r1,r2,q1,q2,hu=>by simp[eqOk]at o1
 | .non,e,n,A,v,w,f1,f2,u,u',o1,o2,r1,r2,q1,q2,hu=>by
  obtain⟨rfl,_⟩:=r1
  cases (show u=Value.none from q1)
  cases e with
  | non=>obtain⟨rfl,_⟩:=r2;cases (show u'=Value.none from q2);exact⟨RcAt.none_none,EqAt.same _⟩
  | bl b=>obtain⟨rfl,_⟩:=r2;cases (show u'=Value.bool b from q2);exact⟨RcAt.none_bool b,EqAt.none_bool b⟩
  | int j=>obtain⟨rfl,_⟩:=r2;obtain⟨t,rfl⟩:=q2;exact⟨RcAt.none_int j t,EqAt.none_int j t⟩
  | str j=>obtain⟨rfl,_⟩:=r2;obtain⟨t,rfl⟩:=q2;exact⟨RcAt.none_str j t,EqAt.none_str j t⟩
  | lst g es =>
   obtain⟨a,vs,f,rfl,q,rs⟩:=JF hC hF r2
   cases (show u'=Value.ref a from q2)
   obtain⟨its,_,p,_⟩:=I.list q
   exact⟨RcAt.none_list p.isList (by omega),EqAt.none_list p.isList (by omega)⟩
  | tup es =>
   obtain⟨a,vs,rfl,q,rs⟩:=Yg hC r2
   cases (show u'=Value.ref a from q2)
   obtain⟨its,_,p,_⟩:=I.tuple q
   exact⟨RcAt.none_tuple p (by omega),EqAt.none_tuple p (by omega)⟩
  | ty _=>simp[eqOk]at o2
  | ftu _=>simp[eqOk]at o2
  | dct _ _ _=>simp[eqOk]at o2
  | obj _ _ _ _=>simp[eqOk]at o2
  | exc _ _ _=>simp[eqOk]at o2
 | .bl x,e,n,A,v,w,f1,f2,u,u',o1,o2,r1,r2,q1,q2,hu=>by
  obtain⟨rfl,_⟩:=r1
  cases (show u=Value.bool x from q1)
  cases e with
  | non=>obtain⟨rfl,_⟩:=r2;cases (show u'=Value.none from q2);exact⟨RcAt.bool_none x,EqAt.bool_none x⟩
  | bl b=>obtain⟨rfl,_⟩:=r2;cases (show u'=Value.bool b from q2);exact⟨RcAt.bool_bool x b,EqAt.bool_bool x b⟩
  | int j=>obtain⟨rfl,_⟩:=r2;obtain⟨t,rfl⟩:=q2;exact⟨RcAt.bool_int x j t,EqAt.bool_int x j t⟩
  | str j=>obtain⟨rfl,_⟩:=r2;obtain⟨t,rfl⟩:=q2;exact⟨RcAt.bool_str x j t,EqAt.bool_str x j t⟩
  | lst g es =>
   obtain⟨a,vs,f,rfl,q,rs⟩:=JF hC hF r2
   cases (show u'=Value.ref a from q2)
   obtain⟨its,_,p,_⟩:=I.list q
   exact⟨RcAt.bool_list x p.isList (by omega),EqAt.bool_list x p.isList (by omega)⟩
  | tup es =>
   obtain⟨a,vs,rfl,q,rs⟩:=Yg hC r2
   cases (show u'=Value.ref a from q2)
   obtain⟨its,_,p,_⟩:=I.tuple q
   exact⟨RcAt.bool_tuple x p (by omega),EqAt.bool_tuple x p (by omega)⟩
  | ty _=>simp[eqOk]at o2
  | ftu _=>simp[eqOk]at o2
  | dct _ _ _=>simp[eqOk]at o2
  | obj _ _ _ _=>simp[eqOk]at o2
  | exc _ _ _=>simp[eqOk]at o2
 | .int x,e,n,A,v,w,f1,f2,u,u',o1,o2,r1,r2,q1,q2,hu=>by
  obtain⟨rfl,_⟩:=r1
  obtain⟨t0,rfl⟩:=q1
  cases e with
  | non=>obtain⟨rfl,_⟩:=r2;cases (show u'=Value.none from q2);exact⟨RcAt.int_none x t0,EqAt.int_none x t0⟩
  | bl b=>obtain⟨rfl,_⟩:=r2;cases (show u'=Value.bool b from q2);exact⟨RcAt.int_bool x t0 b,EqAt.int_bool x t0 b⟩
  | int j=>obtain⟨rfl,_⟩:=r2;obtain⟨t,rfl⟩:=q2;exact⟨RcAt.int_int x t0 j t,EqAt.int_int x t0 j t⟩
  | str j=>obtain⟨rfl,_⟩:=r2;obtain⟨t,rfl⟩:=q2;exact⟨RcAt.int_str x t0 j t,EqAt.int_str x t0 j t⟩
  | lst g es =>
   obtain⟨a,vs,f,rfl,q,rs⟩:=JF hC hF r2
   cases (show u'=Value.ref a from q2)
   obtain⟨its,_,p,_⟩:=I.list q
   exact⟨RcAt.int_list x t0 p.isList (by omega),EqAt.int_list x t0 p.isList (by omega)⟩
  | tup es =>
   obtain⟨a,vs,rfl,q,rs⟩:=Yg hC r2
   cases (show u'=Value.ref a from q2)
   obtain⟨its,_,p,_⟩:=I.tuple q
   exact⟨RcAt.int_tuple x t0 p (by omega),EqAt.int_tuple x t0 p (by omega)⟩
  | ty _=>simp[eqOk]at o2
  | ftu _=>simp[eqOk]at o2
  | dct _ _ _=>simp[eqOk]at o2
  | obj _ _ _ _=>simp[eqOk]at o2
  | exc _ _ _=>simp[eqOk]at o2
 | .str x,e,n,A,v,w,f1,f2,u,u',o1,o2,r1,r2,q1,q2,hu=>by
  obtain⟨rfl,_⟩:=r1
  obtain⟨t0,rfl⟩:=q1
  cases e with
  | non=>obtain⟨rfl,_⟩:=r2;cases (show u'=Value.none from q2);exact⟨RcAt.str_none x t0,EqAt.str_none x t0⟩
  | bl b=>obtain⟨rfl,_⟩:=r2;cases (show u'=Value.bool b from q2);exact⟨RcAt.str_bool x t0 b,EqAt.str_bool x t0 b⟩
  | int j=>obtain⟨rfl,_⟩:=r2;obtain⟨t,rfl⟩:=q2;exact⟨RcAt.str_int x t0 j t,EqAt.str_int x t0 j t⟩
  | str j=>obtain⟨rfl,_⟩:=r2;obtain⟨t,rfl⟩:=q2;exact⟨RcAt.str_str x t0 j t,EqAt.str_str x t0 j t⟩
  | lst g es =>
   obtain⟨a,vs,f,rfl,q,rs⟩:=JF hC hF r2
   cases (show u'=Value.ref a from q2)
   obtain⟨its,_,p,_⟩:=I.list q
   exact⟨RcAt.str_list x t0 p.isList (by omega),EqAt.str_list x t0 p.isList (by omega)⟩
  | tup es =>
   obtain⟨a,vs,rfl,q,rs⟩:=Yg hC r2
   cases (show u'=Value.ref a from q2)
   obtain⟨its,_,p,_⟩:=I.tuple q
   exact⟨RcAt.str_tuple x t0 p (by omega),EqAt.str_tuple x t0 p (by omega)⟩
  | ty _=>simp[eqOk]at o2
  | ftu _=>simp[eqOk]at o2
  | dct _ _ _=>simp[eqOk]at o2
  | obj _ _ _ _=>simp[eqOk]at o2
  | exc _ _ _=>simp[eqOk]at o2
 | .lst g ds,e,n,A,v,w,f1,f2,u,u',o1,o2,r1,r2,q1,q2,hu=>by
  have r1':=r1
  have r2':=r2
  have q2':=q2
  obtain⟨a,vs,f,rfl,q,rs⟩:=JF hC hF r1
  cases (show u=Value.ref a from q1)
  obtain⟨its,rv,p,_⟩:=I.list q
  have hi:=p.isList
  cases e with
  | non=>obtain⟨rfl,_⟩:=r2;cases (show u'=Value.none from q2);exact⟨RcAt.list_none hi (by omega),EqAt.list_none hi (by omega)⟩
  | bl b=>obtain⟨rfl,_⟩:=r2;cases (show u'=Value.bool b from q2);exact⟨RcAt.list_bool b hi (by omega),EqAt.list_bool b hi (by omega)⟩
  | int j=>obtain⟨rfl,_⟩:=r2;obtain⟨t,rfl⟩:=q2;exact⟨RcAt.list_int j t hi (by omega),EqAt.list_int j t hi (by omega)⟩
  | str j=>obtain⟨rfl,_⟩:=r2;obtain⟨t,rfl⟩:=q2;exact⟨RcAt.list_str j t hi (by omega),EqAt.list_str j t hi (by omega)⟩
  | tup es =>
   obtain⟨b,ws,rfl,k,rs2⟩:=Yg hC r2
   cases (show u'=Value.ref b from q2)
   obtain⟨its2,_,p2,_⟩:=I.tuple k
   exact⟨RcAt.list_tuple hi p2 (by omega),EqAt.list_tuple hi p2 (by omega)⟩
  | ty _=>simp[eqOk]at o2
  | ftu _=>simp[eqOk]at o2
  | dct _ _ _=>simp[eqOk]at o2
  | obj _ _ _ _=>simp[eqOk]at o2
  | exc _ _ _=>simp[eqOk]at o2
  | lst g2 es =>
   cases n with
   | zero=>simp[eqOk]at o1
   | succ n =>
    obtain⟨b,ws,f',rfl,k,rs2⟩:=JF hC hF r2
    cases (show u'=Value.ref b from q2)
    obtain⟨its2,rv2,p2,_⟩:=I.list k
    have hi2:=p2.isList
    have n1:=Zx rs rv
    have n2:=Zx rs2 rv2
    have he:=rc_reps I hC hF ds es n A.in1 vs ws f f' its its2 (by simpa [eqOk] using o1) (by simpa [eqOk] using o2) rs rs2 rv rv2 (by show A.units+1+n+1 < cLine;omega)
    have rc:RcAt A s (.ref a) (.ref b) (pyEqs ds es):=by
     by_cases hsz:ds.length=es.length
     ·rw[←JaV hsz,n1]
      have:=RcAt.lists (A:=A) (e:=fun j=>JaT ds es j) hi hi2 (by simp;omega) (by omega) (fun j h1 h2=>by
       have:=he j (by simpa using h1) (by simpa using h2)
       simpa using this)
      simpa using this
     ·rw[JaR hsz]
      exact RcAt.lists_lengths hi hi2 (by simp;omega) (by omega)
    refine⟨rc,?_⟩
    by_cases hab:a=b
    ·subst hab
     have:=JeN I hC hF _ _ (n+1) _ f1 f2 o1 o2 r1' r2'
     rw[this];exact EqAt.same _
    ·exact EqAt.of_refs hab rc
 | .tup ds,e,n,A,v,w,f1,f2,u,u',o1,o2,r1,r2,q1,q2,hu=>by
  have r1':=r1
  have r2':=r2
  obtain⟨a,vs,rfl,q,rs⟩:=Yg hC r1
  cases (show u=Value.ref a from q1)
  obtain⟨its,rv,p,_⟩:=I.tuple q
  have hi:s.heap.IsTuple a its.toArray:=p
  cases e with
  | non=>obtain⟨rfl,_⟩:=r2;cases (show u'=Value.none from q2);exact⟨RcAt.tuple_none hi (by omega),EqAt.tuple_none hi (by omega)⟩
  | bl b=>obtain⟨rfl,_⟩:=r2;cases (show u'=Value.bool b from q2);exact⟨RcAt.tuple_bool b hi (by omega),EqAt.tuple_bool b hi (by omega)⟩
  | int j=>obtain⟨rfl,_⟩:=r2;obtain⟨t,rfl⟩:=q2;exact⟨RcAt.tuple_int j t hi (by omega),EqAt.tuple_int j t hi (by omega)⟩
  | str j=>obtain⟨rfl,_⟩:=r2;obtain⟨t,rfl⟩:=q2;exact⟨RcAt.tuple_str j t hi (by omega),EqAt.tuple_str j t hi (by omega)⟩
  | lst g es =>
   obtain⟨b,ws,f,rfl,k,rs2⟩:=JF hC hF r2
   cases (show u'=Value.ref b from q2)
   obtain⟨its2,_,p2,_⟩:=I.list k
   exact⟨RcAt.tuple_list hi p2.isList (by omega),EqAt.tuple_list hi p2.isList (by omega)⟩
  | ty _=>simp[eqOk]at o2
  | ftu _=>simp[eqOk]at o2
  | dct _ _ _=>simp[eqOk]at o2
  | obj _ _ _ _=>simp[eqOk]at o2
  | exc _ _ _=>simp[eqOk]at o2
  | tup es =>
   cases n with
   | zero=>simp[eqOk]at o1
   | succ n =>
    obtain⟨b,ws,rfl,k,rs2⟩:=Yg hC r2
    cases (show u'=Value.ref b from q2)
    obtain⟨its2,rv2,p2,_⟩:=I.tuple k
    have hi2:s.heap.IsTuple b its2.toArray:=p2
    have n1:=Zx rs rv
    have n2:=Zx rs2 rv2
    have he:=rc_reps I hC hF ds es n A.in1 vs ws f1 f2 its its2 (by simpa [eqOk] using o1) (by simpa [eqOk] using o2) rs rs2 rv rv2 (by show A.units+1+n+1 < cLine;omega)
    have rc:RcAt A s (.ref a) (.ref b) (pyEqs ds es):=by
     have z:=RcAt.tuples (A:=A) (e:=fun j=>JaT ds es j) hi hi2 (by omega) (fun j h1 h2=>by
      have:=he j (by simpa using h1) (by simpa using h2)
      simpa using this)
     have e2:((List.range (min its.toArray.size its2.toArray.size)).all (fun j=>JaT ds es j) && its.toArray.size == its2.toArray.size)=pyEqs ds es:=by
      rw[List.size_toArray,List.size_toArray,←n1,←n2]
      by_cases hsz:ds.length=es.length
      ·rw[←JaV hsz,hsz];simp
      ·rw[JaR hsz];simp[hsz]
     rw[e2]at z;exact z
    refine⟨rc,?_⟩
    by_cases hab:a=b
    ·subst hab
     have:=JeN I hC hF _ _ (n+1) _ f1 f2 o1 o2 r1' r2'
     rw[this];exact EqAt.same _
    ·exact EqAt.of_refs hab rc
theorem rc_reps (I:Inv X pins σ H s) (hC:C.At X) (hF:Fr C H):∀(ds es:List D) (n:Nat) (A:Around) (vs ws:List V) (f1 f2:List Addr) (us us':List Value),eqOks n ds=true→eqOks n es=true→Reps C H ds vs f1→Reps C H es ws f2→Vals vs us→Vals ws us'→A.units+n+1 < cLine →
  ∀j (h1:j < us.length) (h2:j < us'.length),EqAt A s us[j] us'[j] (JaT ds es j)
 | [],es,n,A,vs,ws,f1,f2,us,us',o1,o2,r1,r2,q1,q2,hu=>fun j h1 h2=>by
  have:=Zx r1 q1
  simp at this;omega
 | d::ds,[],n,A,vs,ws,f1,f2,us,us',o1,o2,r1,r2,q1,q2,hu=>fun j h1 h2=>by
  have:=Zx r2 q2
  simp at this;omega
 | d::ds,e::es,n,A,vs,ws,f1,f2,us,us',o1,o2,⟨v,vs',g1,g2,e1,r1,rs1,_⟩,⟨w,ws',k1,k2,e2,r2,rs2,_⟩,q1,q2,hu=>fun j h1 h2=>by
  subst e1 e2
  simp only[eqOks,Bool.and_eq_true]at o1 o2
  cases q1 with
  | cons p1 q1 =>
   cases q2 with
   | cons p2 q2 =>
    cases j with
    | zero=>exact(Jgg I hC hF d e n A v w g1 k1 _ _ o1.1 o2.1 r1 r2 p1 p2 hu).2
    | succ j =>
     have:=rc_reps I hC hF ds es n A vs' ws' g2 k2 _ _ o1.2 o2.2 rs1 rs2 q1 q2 hu j (by simpa using h1) (by simpa using h2)
     simpa [JaT] using this
end
end
def pEq (d e:D):Option D:=if eqOk 40 d && eqOk 40 e then some (.bl (pyEq d e)) else none
def pNe (d e:D):Option D:=if eqOk 40 d && eqOk 40 e then some (.bl (!pyEq d e)) else none
theorem pEq_inv {d e z} (h:pEq d e=some z):eqOk 40 d=true∧eqOk 40 e=true∧z=.bl (pyEq d e):=by
 unfold pEq at h
 split at h
 ·rename_i q;cases h;have:=Bool.and_eq_true_iff.mp q;exact⟨this.1,this.2,rfl⟩
 ·cases h
theorem pNe_inv {d e z} (h:pNe d e=some z):eqOk 40 d=true∧eqOk 40 e=true∧z=.bl (!pyEq d e):=by
 unfold pNe at h
 split at h
 ·rename_i q;cases h;have:=Bool.and_eq_true_iff.mp q;exact⟨this.1,this.2,rfl⟩
 ·cases h
theorem Uj {k:Nat} (hr:Room k X.A):OD2 X (compareOp .Eq) pEq:=by
 intro pins s σ H x y v u Q I rx ry ⟨C,dx,dy,fx,fy,d,hC,hF,r1,r2,e,kk⟩
 obtain⟨o1,o2,rfl⟩:=pEq_inv e
 have:=(Jgg I hC hF dx dy 40 X.A x y fx fy v u o1 o2 r1 r2 rx ry (by have:=hr.units;omega)).1
 exact this X.prog X.w X.xe _ ⟨.bl _,H,I,rfl,kk.here ⟨rfl,rfl⟩⟩
end
end VS
namespace VS
open PySem L2 SeqAt
section
variable {X:Cx} {W:WX} {M M1 M2 M3 Rs R1 R2 R3:List Nat} {e a b c:Expr} {es:List Expr} {ca cb cc:CE} {cs:CA} {pos:Pos}
variable {pins:List (Addr × Obj)} {σ:St} {H:Hp} {s:Shared} {C:Ctx}
theorem rcne_rep (I:Inv X pins σ H s) (hC:C.At X) (hF:Fr C H):∀(d e:D) (n:Nat) (A:Around) (v w:V) (f1 f2:List Addr) (u u':Value),eqOk n d=true→eqOk n e=true→Rep C H d v f1→Rep C H e w f2→RelV v u→RelV w u'→A.units+n+1 < cLine →
  RcNeAt A s u u' (!pyEq d e)
 | .ty i,e,n,A,v,w,f1,f2,u,u',o1,o2,r1,r2,q1,q2,hu=>by simp[eqOk]at o1
 | .ftu _,e,n,A,v,w,f1,f2,u,u',o1,o2,r1,r2,q1,q2,hu=>by simp[eqOk]at o1
 | .dct _ _ _,e,n,A,v,w,f1,f2,u,u',o1,o2,r1,r2,q1,q2,hu=>by simp[eqOk]at o1
 | .obj _ _ _ _,e,n,A,v,w,f1,f2,u,u',o1,o2,r1,r2,q1,q2,hu=>by simp[eqOk]at o1
 | .exc _ _ _,e,n,A,v,w,f1,f2,u,u',o1,o2,r1,r2,q1,q2,hu=>by simp[eqOk]at o1
 | .non,e,n,A,v,w,f1,f2,u,u',o1,o2,r1,r2,q1,q2,hu=>by
  obtain⟨rfl,_⟩:=r1
  cases (show u=Value.none from q1)
  cases e with
  | non=>obtain⟨rfl,_⟩:=r2;cases (show u'=Value.none from q2);exact RcNeAt.none_none
  | bl b=>obtain⟨rfl,_⟩:=r2;cases (show u'=Value.bool b from q2);exact RcNeAt.none_bool b
  | int j=>obtain⟨rfl,_⟩:=r2;obtain⟨t,rfl⟩:=q2;exact RcNeAt.none_int j t
  | str j=>obtain⟨rfl,_⟩:=r2;obtain⟨t,rfl⟩:=q2;exact RcNeAt.none_str j t
  | lst g es =>
   obtain⟨a,vs,f,rfl,q,rs⟩:=JF hC hF r2
   cases (show u'=Value.ref a from q2)
   obtain⟨its,_,p,_⟩:=I.list q
   exact RcNeAt.none_list p.isList (by omega)
  | tup es =>
   obtain⟨a,vs,rfl,q,rs⟩:=Yg hC r2
   cases (show u'=Value.ref a from q2)
   obtain⟨its,_,p,_⟩:=I.tuple q
   exact RcNeAt.none_tuple p (by omega)
  | ty _=>simp[eqOk]at o2
  | ftu _=>simp[eqOk]at o2
  | dct _ _ _=>simp[eqOk]at o2
  | obj _ _ _ _=>simp[eqOk]at o2
  | exc _ _ _=>simp[eqOk]at o2
 | .bl x,e,n,A,v,w,f1,f2,u,u',o1,o2,r1,r2,q1,q2,hu=>by
  obtain⟨rfl,_⟩:=r1
  cases (show u=Value.bool x from q1)
  cases e with
  | non=>obtain⟨rfl,_⟩:=r2;cases (show u'=Value.none from q2);exact RcNeAt.bool_none x
  | bl b=>obtain⟨rfl,_⟩:=r2;cases (show u'=Value.bool b from q2);exact RcNeAt.bool_bool x b
  | int j=>obtain⟨rfl,_⟩:=r2;obtain⟨t,rfl⟩:=q2;exact RcNeAt.bool_int x j t
  | str j=>obtain⟨rfl,_⟩:=r2;obtain⟨t,rfl⟩:=q2;exact RcNeAt.bool_str x j t
  | lst g es =>
   obtain⟨a,vs,f,rfl,q,rs⟩:=JF hC hF r2
   cases (show u'=Value.ref a from q2)
   obtain⟨its,_,p,_⟩:=I.list q
   exact RcNeAt.bool_list x p.isList (by omega)
  | tup es =>
   obtain⟨a,vs,rfl,q,rs⟩:=Yg hC r2
   cases (show u'=Value.ref a from q2)
   obtain⟨its,_,p,_⟩:=I.tuple q
   exact RcNeAt.bool_tuple x p (by omega)
  | ty _=>simp[eqOk]at o2
  | ftu _=>simp[eqOk]at o2
  | dct _ _ _=>simp[eqOk]at o2
  | obj _ _ _ _=>simp[eqOk]at o2
  | exc _ _ _=>simp[eqOk]at o2
 | .int x,e,n,A,v,w,f1,f2,u,u',o1,o2,r1,r2,q1,q2,hu=>by
  obtain⟨rfl,_⟩:=r1
  obtain⟨t0,rfl⟩:=q1
  cases e with
  | non=>obtain⟨rfl,_⟩:=r2;cases (show u'=Value.none from q2);exact RcNeAt.int_none x t0
  | bl b=>obtain⟨rfl,_⟩:=r2;cases (show u'=Value.bool b from q2);exact RcNeAt.int_bool x t0 b
  | int j=>obtain⟨rfl,_⟩:=r2;obtain⟨t,rfl⟩:=q2;exact RcNeAt.int_int x t0 j t
  | str j=>obtain⟨rfl,_⟩:=r2;obtain⟨t,rfl⟩:=q2;exact RcNeAt.int_str x t0 j t
  | lst g es =>
   obtain⟨a,vs,f,rfl,q,rs⟩:=JF hC hF r2
   cases (show u'=Value.ref a from q2)
   obtain⟨its,_,p,_⟩:=I.list q
   exact RcNeAt.int_list x t0 p.isList (by omega)
  | tup es =>
   obtain⟨a,vs,rfl,q,rs⟩:=Yg hC r2
   cases (show u'=Value.ref a from q2)
   obtain⟨its,_,p,_⟩:=I.tuple q
   exact RcNeAt.int_tuple x t0 p (by omega)
  | ty _=>simp[eqOk]at o2
  | ftu _=>simp[eqOk]at o2
  | dct _ _ _=>simp[eqOk]at o2
  | obj _ _ _ _=>simp[eqOk]at o2
  | exc _ _ _=>simp[eqOk]at o2
 | .str x,e,n,A,v,w,f1,f2,u,u',o1,o2,r1,r2,q1,q2,hu=>by
  obtain⟨rfl,_⟩:=r1
  obtain⟨t0,rfl⟩:=q1
  cases e with
  | non=>obtain⟨rfl,_⟩:=r2;cases (show u'=Value.none from q2);exact RcNeAt.str_none x t0
  | bl b=>obtain⟨rfl,_⟩:=r2;cases (show u'=Value.bool b from q2);exact RcNeAt.str_bool x t0 b
  | int j=>obtain⟨rfl,_⟩:=r2;obtain⟨t,rfl⟩:=q2;exact RcNeAt.str_int x t0 j t
  | str j=>obtain⟨rfl,_⟩:=r2;obtain⟨t,rfl⟩:=q2;exact RcNeAt.str_str x t0 j t
  | lst g es =>
   obtain⟨a,vs,f,rfl,q,rs⟩:=JF hC hF r2
   cases (show u'=Value.ref a from q2)
   obtain⟨its,_,p,_⟩:=I.list q
   exact RcNeAt.str_list x t0 p.isList (by omega)
  | tup es =>
   obtain⟨a,vs,rfl,q,rs⟩:=Yg hC r2
   cases (show u'=Value.ref a from q2)
   obtain⟨its,_,p,_⟩:=I.tuple q
   exact RcNeAt.str_tuple x t0 p (by omega)
  | ty _=>simp[eqOk]at o2
  | ftu _=>simp[eqOk]at o2
  | dct _ _ _=>simp[eqOk]at o2
  | obj _ _ _ _=>simp[eqOk]at o2
  | exc _ _ _=>simp[eqOk]at o2
 | .lst g ds,e,n,A,v,w,f1,f2,u,u',o1,o2,r1,r2,q1,q2,hu=>by
  have r1':=r1
  have r2':=r2
  have q2':=q2
  obtain⟨a,vs,f,rfl,q,rs⟩:=JF hC hF r1
  cases (show u=Value.ref a from q1)
  obtain⟨its,rv,p,_⟩:=I.list q
  have hi:=p.isList
  cases e with
  | non=>obtain⟨rfl,_⟩:=r2;cases (show u'=Value.none from q2);exact RcNeAt.list_none hi (by omega)
  | bl b=>obtain⟨rfl,_⟩:=r2;cases (show u'=Value.bool b from q2);exact RcNeAt.list_bool b hi (by omega)
  | int j=>obtain⟨rfl,_⟩:=r2;obtain⟨t,rfl⟩:=q2;exact RcNeAt.list_int j t hi (by omega)
  | str j=>obtain⟨rfl,_⟩:=r2;obtain⟨t,rfl⟩:=q2;exact RcNeAt.list_str j t hi (by omega)
  | tup es =>
   obtain⟨b,ws,rfl,k,rs2⟩:=Yg hC r2
   cases (show u'=Value.ref b from q2)
   obtain⟨its2,_,p2,_⟩:=I.tuple k
   exact RcNeAt.list_tuple hi p2 (by omega)
  | ty _=>simp[eqOk]at o2
  | ftu _=>simp[eqOk]at o2
  | dct _ _ _=>simp[eqOk]at o2
  | obj _ _ _ _=>simp[eqOk]at o2
  | exc _ _ _=>simp[eqOk]at o2
  | lst g2 es =>
   cases n with
   | zero=>simp[eqOk]at o1
   | succ n =>
    obtain⟨b,ws,f',rfl,k,rs2⟩:=JF hC hF r2
    cases (show u'=Value.ref b from q2)
    obtain⟨its2,rv2,p2,_⟩:=I.list k
    have hi2:=p2.isList
    have n1:=Zx rs rv
    have n2:=Zx rs2 rv2
    have he:=rc_reps I hC hF ds es n A.in1 vs ws f f' its its2 (by simpa [eqOk] using o1) (by simpa [eqOk] using o2) rs rs2 rv rv2 (by show A.units+1+n+1 < cLine;omega)
    show RcNeAt A s (.ref a) (.ref b) (!pyEqs ds es)
    by_cases hsz:ds.length=es.length
    ·rw[←JaV hsz,n1]
     have:=RcNeAt.lists (A:=A) (e:=fun j=>JaT ds es j) hi hi2 (by simp;omega) (by omega) (fun j h1 h2=>by
      have:=he j (by simpa using h1) (by simpa using h2)
      simpa using this)
     simpa using this
    ·rw[JaR hsz]
     exact RcNeAt.lists_lengths hi hi2 (by simp;omega) (by omega)
 | .tup ds,e,n,A,v,w,f1,f2,u,u',o1,o2,r1,r2,q1,q2,hu=>by
  have r1':=r1
  have r2':=r2
  obtain⟨a,vs,rfl,q,rs⟩:=Yg hC r1
  cases (show u=Value.ref a from q1)
  obtain⟨its,rv,p,_⟩:=I.tuple q
  have hi:s.heap.IsTuple a its.toArray:=p
  cases e with
  | non=>obtain⟨rfl,_⟩:=r2;cases (show u'=Value.none from q2);exact RcNeAt.tuple_none hi (by omega)
  | bl b=>obtain⟨rfl,_⟩:=r2;cases (show u'=Value.bool b from q2);exact RcNeAt.tuple_bool b hi (by omega)
  | int j=>obtain⟨rfl,_⟩:=r2;obtain⟨t,rfl⟩:=q2;exact RcNeAt.tuple_int j t hi (by omega)
  | str j=>obtain⟨rfl,_⟩:=r2;obtain⟨t,rfl⟩:=q2;exact RcNeAt.tuple_str j t hi (by omega)
  | lst g es =>
   obtain⟨b,ws,f,rfl,k,rs2⟩:=JF hC hF r2
   cases (show u'=Value.ref b from q2)
   obtain⟨its2,_,p2,_⟩:=I.list k
   exact RcNeAt.tuple_list hi p2.isList (by omega)
  | ty _=>simp[eqOk]at o2
  | ftu _=>simp[eqOk]at o2
  | dct _ _ _=>simp[eqOk]at o2
  | obj _ _ _ _=>simp[eqOk]at o2
  | exc _ _ _=>simp[eqOk]at o2
  | tup es =>
   cases n with
   | zero=>simp[eqOk]at o1
   | succ n =>
    obtain⟨b,ws,rfl,k,rs2⟩:=Yg hC r2
    cases (show u'=Value.ref b from q2)
    obtain⟨its2,rv2,p2,_⟩:=I.tuple k
    have hi2:s.heap.IsTuple b its2.toArray:=p2
    have n1:=Zx rs rv
    have n2:=Zx rs2 rv2
    have he:=rc_reps I hC hF ds es n A.in1 vs ws f1 f2 its its2 (by simpa [eqOk] using o1) (by simpa [eqOk] using o2) rs rs2 rv rv2 (by show A.units+1+n+1 < cLine;omega)
    show RcNeAt A s (.ref a) (.ref b) (!pyEqs ds es)
    have z:=RcNeAt.tuples (A:=A) (e:=fun j=>JaT ds es j) hi hi2 (by omega) (fun j h1 h2=>by
     have:=he j (by simpa using h1) (by simpa using h2)
     simpa using this)
    have e2:((List.range (min its.toArray.size its2.toArray.size)).all (fun j=>JaT ds es j) && its.toArray.size == its2.toArray.size)=pyEqs ds es:=by
     rw[List.size_toArray,List.size_toArray,←n1,←n2]
     by_cases hsz:ds.length=es.length
     ·rw[←JaV hsz,hsz];simp
     ·rw[JaR hsz];simp[hsz]
    rw[e2]at z;exact z
theorem ZL {k:Nat} (hr:Room k X.A):OD2 X (compareOp .NotEq) pNe:=by
 intro pins s σ H x y v u Q I rx ry ⟨C,dx,dy,fx,fy,d,hC,hF,r1,r2,e,kk⟩
 obtain⟨o1,o2,rfl⟩:=pNe_inv e
 have:=rcne_rep I hC hF dx dy 40 X.A x y fx fy v u o1 o2 r1 r2 rx ry (by have:=hr.units;omega)
 exact this X.prog X.w X.xe _ ⟨.bl _,H,I,rfl,kk.here ⟨rfl,rfl⟩⟩
def pIs:D→D→Option D
 | .non,.non=>some (.bl true)
 | .bl a,.bl b=>some (.bl (decide (a=b)))
 | .tup _,.non=>some (.bl false)
 | .lst _ _,.non=>some (.bl false)
 | .dct _ _ _,.non=>some (.bl false)
 | .obj _ _ _ _,.non=>some (.bl false)
 | .exc _ _ _,.non=>some (.bl false)
 | .int _,.non=>some (.bl false)
 | .str _,.non=>some (.bl false)
 | .bl _,.non=>some (.bl false)
 | _,_=>none
def ZY (d e:D):Option D:=match pIs d e with
 | some (.bl b)=>some (.bl (!b))
 | _=>none
def rIs (neg:Bool):L2.R2:=fun x y H Q=>(y=.non∧Q (.bl (if neg then !decide (x=.non) else decide (x=.non))) H)∨∃a b,x=.bl a∧y=.bl b∧Q (.bl (if neg then !decide (a=b) else decide (a=b))) H
theorem op_is2:OpR X (compareOp .Is) (rIs false):=OpR.or op_isN (by
 intro pins s σ H x y v u Q I rx ry ⟨a,b,e1,e2,q⟩
 exact op_is_bl pins s σ H x y v u Q I rx ry ⟨a,b,e1,e2,q⟩)
theorem op_isnot2:OpR X (compareOp .IsNot) (rIs true):=OpR.or op_notN (by
 intro pins s σ H x y v u Q I rx ry ⟨a,b,e1,e2,q⟩
 exact op_isnot_bl pins s σ H x y v u Q I rx ry ⟨a,b,e1,e2,q⟩)
theorem JeI {C:Ctx} {H:Hp} {dx dy d:D} {x y:V} {fx fy} (e:pIs dx dy=some d) (r1:Rep C H dx x fx) (r2:Rep C H dy y fy) :
  ∃k,d=.bl k∧((y=.non∧k=decide (x=.non))∨∃a b,x=.bl a∧y=.bl b∧k=decide (a=b)):=by
 cases dx<;>cases dy<;>simp[pIs]at e<;>subst e
 case non.non=>obtain⟨rfl,_⟩:=r1;obtain⟨rfl,_⟩:=r2;exact⟨_,rfl,.inl ⟨rfl,by simp⟩⟩
 case bl.bl a b=>obtain⟨rfl,_⟩:=r1;obtain⟨rfl,_⟩:=r2;exact⟨_,rfl,.inr ⟨a,b,rfl,rfl,by first | rfl | simp⟩⟩
 case bl.non=>obtain⟨rfl,_⟩:=r1;obtain⟨rfl,_⟩:=r2;exact⟨_,rfl,.inl ⟨rfl,by simp⟩⟩
 case int.non=>obtain⟨rfl,_⟩:=r1;obtain⟨rfl,_⟩:=r2;exact⟨_,rfl,.inl ⟨rfl,by simp⟩⟩
 case str.non=>obtain⟨rfl,_⟩:=r1;obtain⟨rfl,_⟩:=r2;exact⟨_,rfl,.inl ⟨rfl,by simp⟩⟩
 case tup.non=>obtain⟨a,vs,rfl,_⟩:=r1;obtain⟨rfl,_⟩:=r2;exact⟨_,rfl,.inl ⟨rfl,by simp⟩⟩
 case lst.non=>obtain⟨a,vs,f1,f2,rfl,_⟩:=r1;obtain⟨rfl,_⟩:=r2;exact⟨_,rfl,.inl ⟨rfl,by simp⟩⟩
 case dct.non=>obtain⟨a,vs,f1,f2,rfl,_⟩:=r1;obtain⟨rfl,_⟩:=r2;exact⟨_,rfl,.inl ⟨rfl,by simp⟩⟩
 case obj.non=>obtain⟨a,_,_,_,_,_,rfl,_⟩:=r1;obtain⟨rfl,_⟩:=r2;exact⟨_,rfl,.inl ⟨rfl,by simp⟩⟩
 case exc.non=>obtain⟨a,_,_,_,rfl,_⟩:=r1;obtain⟨rfl,_⟩:=r2;exact⟨_,rfl,.inl ⟨rfl,by simp⟩⟩
theorem od_is:OD2 X (compareOp .Is) pIs:=by
 refine OD2.of op_is2 fun x y H Q ⟨C,dx,dy,fx,fy,d,hC,hF,r1,r2,e,k⟩=>?_
 obtain⟨b,rfl,⟨h1,h2⟩ | ⟨a,a',h1,h2,h3⟩⟩:=JeI e r1 r2
 ·refine .inl ⟨h1,?_⟩
  rw[if_neg (by simp),←h2]
  exact k.here ⟨rfl,rfl⟩
 ·refine .inr ⟨a,a',h1,h2,?_⟩
  rw[if_neg (by simp),←h3]
  exact k.here ⟨rfl,rfl⟩
theorem JdT:OD2 X (compareOp .IsNot) ZY:=by
 refine OD2.of op_isnot2 fun x y H Q ⟨C,dx,dy,fx,fy,d,hC,hF,r1,r2,e,k⟩=>?_
 unfold ZY at e
 cases e1:pIs dx dy with
 | none=>rw[e1]at e;cases e
 | some z =>
  obtain⟨b,rfl,⟨h1,h2⟩ | ⟨a,a',h1,h2,h3⟩⟩:=JeI e1 r1 r2
  ·rw[e1]at e;cases e
   refine .inl ⟨h1,?_⟩
   rw[if_pos rfl,←h2]
   exact k.here ⟨rfl,rfl⟩
  ·rw[e1]at e;cases e
   refine .inr ⟨a,a',h1,h2,?_⟩
   rw[if_pos rfl,←h3]
   exact k.here ⟨rfl,rfl⟩
def Jbr (p q:D→D→Option D) (ca cb cc:CE):CE:=fun env=>(cTwo ca cb env).bind fun xy env=>match p xy.1 xy.2 with
 | some (.bl true)=>(cc env).bind fun z env=>R.of (q xy.2 z) env
 | some (.bl false)=>.ok (.bl false) env
 | _=>.err
theorem chain_go {op op':CmpOp} {p q:D→D→Option D} (ho:OD2 X (compareOp op) p) (ho':OD2 X (compareOp op') q) (ha:SB X W M1 R1 a ca) (hb:SB X W M2 R2 b cb) (hc:SB X W M3 R3 c cc)
  (hd:djB R1 M2=true) (hd2:djB R2 M3=true) :
  ∃ta tb tc,PE X a ta∧PE X b tb∧PE X c tc∧∀C fs env σ H tf Q,C.At X→Good C fs env σ H tf→Ut W C (M1++M2++M3) tf fs env σ H Q (Jbr p q ca cb cc env)→tChain (rD2 X p) (rD2 X q) ta tb tc σ H Q:=by
 obtain⟨ta,tb,pa,pb,h2⟩:=JcP ha hb hd
 obtain⟨tc,pc,h3⟩:=hc.go
 refine⟨ta,tb,tc,pa,pb,pc,fun C fs env σ H tf Q hC G po=>?_⟩
 show ta σ H fun x H1=>tb σ H1 fun y H2=>_
 refine h2 C fs env σ H tf _ hC G ?_
 unfold Jbr at po
 cases e1:cTwo ca cb env with
 | err=>rw[e1]at po;exact po
 | ex x env'=>rw[e1]at po;exact fun cv dd fs' H' G' s=>po cv dd fs' H' G' (s.weak (fun i hi=>List.mem_append_left _ hi) fun _ z=>z)
 | ok xy env1 =>
  rw[e1]at po
  intro x y fs1 H1 f1 f2 own G1 s1 r1 r2 i1 i2
  have po':Ut W C (M1++M2++M3) tf fs env σ H Q (match p xy.1 xy.2 with
   | some (.bl true)=>(cc env1).bind fun z env=>R.of (q xy.2 z) env
   | some (.bl false)=>.ok (.bl false) env1
   | _=>.err):=po
  cases e2:p xy.1 xy.2 with
  | none=>rw[e2]at po';exact po'.elim
  | some z =>
   cases z with
   | bl k =>
    cases k with
    | false =>
     rw[e2]at po'
     refine⟨C,xy.1,xy.2,f1,f2,.bl false,hC,G1.fr,r1,r2,e2,fun v H2 fp le rv nd nw=>?_⟩
     obtain⟨rfl,hf⟩:=rv
     refine⟨false,rfl,?_⟩
     rw[if_neg Bool.false_ne_true]
     refine po' (.bl false) fs1 H2 [] (by simpa using G1.drop.le' le) ?_ ⟨rfl,rfl⟩
     have:=(s1.trans (Step.grow (M:=[]) G1.drop le)).weak (M':=M1++M2++M3) (fun i hi=>by simp at hi;simp[hi];rcases hi with h | h<;>simp[h]) fun _ z=>z
     exact this
    | true =>
     rw[e2]at po'
     refine⟨C,xy.1,xy.2,f1,f2,.bl true,hC,G1.fr,r1,r2,e2,fun v H2 fp le rv nd nw=>?_⟩
     obtain⟨rfl,hf⟩:=rv
     refine⟨true,rfl,?_⟩
     rw[if_pos rfl]
     have G2:=G1.le' le
     have s2:=s1.trans (Step.grow (M:=[]) G1.drop le)
     refine h3 C fs1 env1 σ H2 (own++tf) _ hC G2 ?_
     have po2:Ut W C (M1++M2++M3) tf fs env σ H Q ((cc env1).bind fun z env=>R.of (q xy.2 z) env):=po'
     have wk:∀{fs' env' H'},Step M3 (own++tf) fs1 env1 H2 fs' env' H'→Step (M1++M2++M3) tf fs env H fs' env' H':=fun {fs' env' H'} s=>by
      have:=s2.trans (s.weak (fun _ z=>z) fun x hx=>List.mem_append_right _ hx)
      refine this.weak (fun i hi=>?_) fun _ z=>z
      simpa using hi
     cases e3:cc env1 with
     | err=>rw[e3]at po2;exact po2
     | ex x env'=>rw[e3]at po2;exact fun cv dd fs' H' G' s=>po2 cv dd fs' H' G'.drop (wk s)
     | ok z env2 =>
      rw[e3]at po2
      intro zv fs3 H3 f3 own3 G3 s3 r3 i3
      have po3:Ut W C (M1++M2++M3) tf fs env σ H Q (R.of (q xy.2 z) env2):=po2
      cases e4:q xy.2 z with
      | none=>rw[e4]at po3;exact po3.elim
      | some zz =>
       rw[e4]at po3
       have G3':Good C fs3 env2 σ H3 ((own3++own)++tf):=by rw[List.append_assoc];exact G3
       have k2:=i2.keep s3 (Jaf hd2)
       have r2':Rep C H3 xy.2 y f2:=(r2.le le).keep k2 s3.m
       exact⟨C,xy.2,z,f2,f3,zz,hC,G3.fr,r2',r3,e4,Zb G3' (wk s3) po3⟩
   | _=>rw[e2]at po';exact po'.elim
theorem JfZ {op op':CmpOp} {p q:D→D→Option D} (ho:OD2 X (compareOp op) p) (ho':OD2 X (compareOp op') q) (ha:SB X W M1 R1 a ca) (hb:SB X W M2 R2 b cb) (hc:SB X W M3 R3 c cc)
  (hd:djB R1 M2=true:=by decide) (hd2:djB R2 M3=true:=by decide) (hm:lastMarks [op,op'] [b,c]=false:=by with_unfolding_all rfl):ST X W (M1++M2++M3) (.Compare a [op,op'] [b,c] pos) (cTt (Jbr p q ca cb cc)):=by
 obtain⟨ta,tb,tc,pa,pb,pc,h⟩:=chain_go ho ho' ha hb hc hd hd2
 exact Jhz (Rs:=[]) (t:=tChain (rD2 X p) (rD2 X q) ta tb tc) (pt_chain ho ho' pa pb pc hm) fun C fs env σ H tf Q hC G po=>h C fs env σ H tf Q hC G (Jgu po)
def cAnd (ca cb:CE):CE:=fun env=>(ca env).bind fun d env=>match d with
 | .bl true=>cb env
 | .bl false=>.ok (.bl false) env
 | _=>.err
def cNot (ca:CE):CE:=fun env=>(ca env).bind fun d env=>match d with
 | .bl b=>.ok (.bl (!b)) env
 | _=>.err
theorem seqO {fs:FPs} {env:Env} {H:Hp} {tf:List Addr} {Q:VK} {f:D→CE} {t:TE} (hC:C.At X) (G:Good C fs env σ H tf)
  (ht:∀C fs env σ H tf Q,C.At X→Good C fs env σ H tf→JfH W C M1 R1 tf fs env σ H Q (ca env)→t σ H Q)
  (po:Ut W C (M1++M2) tf fs env σ H Q ((ca env).bind f)) {K:VK}
  (hK:∀d v fs1 env1 H1 fp own,Good C fs1 env1 σ H1 (own++tf)→Step M1 tf fs env H fs1 env1 H1→Rep C H1 d v fp→In R1 own fs1 fp→Ut W C (M1++M2) tf fs env σ H Q (f d env1)→K v H1):t σ H K:=by
 refine ht C fs env σ H tf _ hC G ?_
 cases e1:ca env with
 | err=>rw[e1]at po;exact po
 | ex x env' =>
  rw[e1]at po
  exact fun cv dd fs' H' G' s=>po cv dd fs' H' G' (s.weak (fun i hi=>List.mem_append_left _ hi) fun _ z=>z)
 | ok d env1 =>
  rw[e1]at po
  exact fun v fs1 H1 fp own G1 s1 r1 i1=>hK d v fs1 env1 H1 fp own G1 s1 r1 i1 po
theorem Ut.step {fs fs1:FPs} {env env1:Env} {H H1:Hp} {tf:List Addr} {Q:VK} {z:R D} (s1:Step M1 tf fs env H fs1 env1 H1) (po:Ut W C (M1++M2) tf fs env σ H Q z):Ut W C M2 tf fs1 env1 σ H1 Q z:=by
 cases z with
 | err=>exact po
 | ex x env'=>exact fun cv dd fs' H' G' s=>po cv dd fs' H' G' (s1.trans s)
 | ok d env'=>exact fun v fs' H' fp G' s r=>po v fs' H' fp G' (s1.trans s) r
theorem Ut.done {fs fs1:FPs} {env env1:Env} {H H1:Hp} {tf:List Addr} {Q:VK} {d:D} {v:V} (s1:Step M1 tf fs env H fs1 env1 H1) (po:Ut W C (M1++M2) tf fs env σ H Q (.ok d env1)) (G1:Good C fs1 env1 σ H1 tf) (r:Rep C H1 d v []):Q v H1 :=
 po v fs1 H1 [] (by simpa using G1) (s1.weak (fun i hi=>List.mem_append_left _ hi) fun _ z=>z) r
theorem Qy (ha:SB X W M1 R1 a ca) (hb:SO X W M2 (.BoolOp .And (b::es) pos) cb):SO X W (M1++M2) (.BoolOp .And (a::b::es) pos) (cAnd ca cb):=by
 obtain⟨t,p,q⟩:=ha.go
 obtain⟨t2,p2,q2⟩:=hb.go
 refine⟨tAndV t t2,pe_and p p2,fun C fs env σ H tf Q hC G po=>?_⟩
 refine seqO (M1:=M1) (M2:=M2) (R1:=R1) (ca:=ca) hC G q po fun d v fs1 env1 H1 fp own G1 s1 r1 i1 po1=>?_
 cases d with
 | bl k =>
  obtain⟨rfl,_⟩:=r1
  refine⟨k,rfl,?_⟩
  cases k with
  | true=>exact q2 C fs1 env1 σ H1 tf Q hC G1.drop (po1.step s1)
  | false=>exact po1.done s1 G1.drop ⟨rfl,rfl⟩
 | _=>exact po1.elim
theorem Jat {op} (ha:SO X W M1 a ca):SO X W M1 (.BoolOp op [a] pos) ca:=by
 obtain⟨t,p,q⟩:=ha.go
 exact⟨t,pe_one p,q⟩
theorem Jga (ha:SB X W M1 R1 a ca):SO X W M1 (.UnaryOp .Not a pos) (cNot ca):=by
 obtain⟨t,p,q⟩:=ha.go
 refine⟨tNotV t,pe_not p,fun C fs env σ H tf Q hC G po=>?_⟩
 refine seqO (M1:=M1) (M2:=[]) (R1:=R1) (ca:=ca) hC G q (by rw[List.append_nil];exact po) fun d v fs1 env1 H1 fp own G1 s1 r1 i1 po1=>?_
 cases d with
 | bl k =>
  obtain⟨rfl,_⟩:=r1
  exact⟨k,rfl,po1.done s1 G1.drop ⟨rfl,rfl⟩⟩
 | _=>exact po1.elim
def cIf (ct:CT) (ca cb:CE):CE:=fun env=>(ct env).bind fun k env=>if k=true then ca env else cb env
variable {ct:CT}
theorem Je2 (hc:ST X W M1 c ct) (ha:SO X W M2 a ca) (hb:SO X W M3 b cb):SO X W (M1++(M2++M3)) (.IfExp c a b pos) (cIf ct ca cb):=by
 obtain⟨t,p,q⟩:=hc.go
 obtain⟨t2,p2,q2⟩:=ha.go
 obtain⟨t3,p3,q3⟩:=hb.go
 refine⟨tIf t t2 t3,pe_ifExp p p2 p3,fun C fs env σ H tf Q hC G po=>q C fs env σ H tf _ hC G ?_⟩
 unfold cIf at po
 cases e1:ct env with
 | err=>rw[e1]at po;exact po
 | ex x env'=>rw[e1]at po;exact fun cv dd fs' H' G' s=>po cv dd fs' H' G' (s.weak (fun i hi=>List.mem_append_left _ hi) fun _ z=>z)
 | ok k env1 =>
  rw[e1]at po
  intro fs1 H1 G1 s1
  have po1:Ut W C (M1++(M2++M3)) tf fs env σ H Q (if k=true then ca env1 else cb env1):=po
  cases k with
  | true =>
   refine q2 C fs1 env1 σ H1 tf Q hC G1 ?_
   have:=Ut.step (M2:=M2++M3) s1 po1
   rw[if_pos rfl]at this
   cases z:ca env1 with
   | err=>rw[z]at this;exact this
   | ex x env'=>rw[z]at this;exact fun cv dd fs' H' G' s=>this cv dd fs' H' G' (s.weak (fun i hi=>List.mem_append_left _ hi) fun _ z=>z)
   | ok d env'=>rw[z]at this;exact fun v fs' H' fp G' s r=>this v fs' H' fp G' (s.weak (fun i hi=>List.mem_append_left _ hi) fun _ z=>z) r
  | false =>
   refine q3 C fs1 env1 σ H1 tf Q hC G1 ?_
   have:=Ut.step (M2:=M2++M3) s1 po1
   rw[if_neg Bool.false_ne_true]at this
   cases z:cb env1 with
   | err=>rw[z]at this;exact this
   | ex x env'=>rw[z]at this;exact fun cv dd fs' H' G' s=>this cv dd fs' H' G' (s.weak (fun i hi=>List.mem_append_right _ hi) fun _ z=>z)
   | ok d env'=>rw[z]at this;exact fun v fs' H' fp G' s r=>this v fs' H' fp G' (s.weak (fun i hi=>List.mem_append_right _ hi) fun _ z=>z) r
end
end VS
namespace VS
open PySem L2 SeqAt
section
variable {X:Cx} {W:WX} {M M1 M2 M3 Rs R1 R2 R3:List Nat} {e a b c:Expr} {es:List Expr} {ca cb cc:CE} {cs:CA} {pos p:Pos}
variable {pins:List (Addr × Obj)} {σ:St} {H:Hp} {s:Shared} {C:Ctx}
def D.key:D→Option Key
 | .int i=>some (.inl i)
 | .str s=>some (.inr s)
 | _=>none
theorem Je7 {d:D} {k:Key} {v:V} {fp} (h:d.key=some k) (r:Rep C H d v fp):v=kV k:=by
 cases d<;>simp[D.key]at h<;>subst h
 ·exact r.1
 ·exact r.1
def Qw:List Key→List D→Key→Option D
 | k0::ks,d::ds,k=>if k0=k then some d else Qw ks ds k
 | _,_,_=>none
theorem Jdu:∀{kvs:List (Key × V)} {ds:List D} {fp:List Addr} {k:Key} {d:D},Reps C H ds (kvs.map (·.2)) fp→Qw (kvs.map (·.1)) ds k=some d →
  ∃v g1 f g2,valV kvs k=some v∧Rep C H d v f∧fp=g1++f++g2
 | [],ds,fp,k,d,r,h=>by simp[Qw]at h
 | kv::kvs,[],fp,k,d,r,h=>by simp[Qw]at h
 | kv::kvs,d0::ds,fp,k,d,⟨v,vs',f1,f2,e,r,rs,e2⟩,h=>by
  simp only[List.map_cons,List.cons.injEq]at e
  obtain⟨rfl,rfl⟩:=e
  simp only[List.map_cons,Qw]at h
  by_cases hk:kv.1=k
  ·rw[if_pos hk]at h
   cases h
   exact⟨kv.2,[],f1,f2,valV_pos hk,r,by simpa using e2⟩
  ·rw[if_neg hk]at h
   obtain⟨w,g1,f,g2,h1,h2,h3⟩:=Jdu rs h
   exact⟨w,f1++g1,f,g2,by rw[valV_neg hk];exact h1,h2,by rw[e2,h3];simp[List.append_assoc]⟩
theorem Jet:∀{kvs:List (Key × V)} {ds:List D} {fp:List Addr} {k:Key},Reps C H ds (kvs.map (·.2)) fp→Qw (kvs.map (·.1)) ds k=none→valV kvs k=none
 | [],ds,fp,k,r,h=>rfl
 | kv::kvs,[],fp,k,⟨h1,_⟩,h=>by simp at h1
 | kv::kvs,d0::ds,fp,k,⟨v,vs',f1,f2,e,r,rs,e2⟩,h=>by
  simp only[List.map_cons,List.cons.injEq]at e
  obtain⟨rfl,rfl⟩:=e
  simp only[List.map_cons,Qw]at h
  by_cases hk:kv.1=k
  ·rw[if_pos hk]at h;cases h
  ·rw[if_neg hk]at h
   rw[valV_neg hk];exact Jet rs h
theorem JbB {g ks ds v fp} (hF:Fr C H) (r:Rep C H (.dct g ks ds) v fp):∃a kvs f1 f,v=.ref a∧Rd H a (.dK kvs)∧kvs.map (·.1)=ks∧Reps C H ds (kvs.map (·.2)) f∧fp=f1++f:=by
 obtain⟨a,kvs,f1,f2,e,n,q,r,_,e2⟩:=r
 exact⟨a,kvs,f1,f2,e,(Nd.rd n hF).rd (fun xs z=>nomatch z),q.1,r,e2⟩
theorem Jf6 {ds:List D} {vs:List V} {fp:List Addr} {i:Int} {d:D} (r:Reps C H ds vs fp) (h:atI ds i=some d):∃v g1 f g2,atI vs i=some v∧Rep C H d v f∧fp=g1++f++g2:=by
 unfold atI at h ⊢
 rw[Jz r]at h
 cases e:ixN vs.length i with
 | none=>rw[e]at h;cases h
 | some j =>
  rw[e]at h
  exact Jbm r h
def ixD:D→D→Option D
 | .lst _ ds,.int i=>atI ds i
 | .tup ds,.int i=>atI ds i
 | .str s,.int i=>if s.length≤sizeLine then (atI s.cps.toList i).map fun c=>.str ⟨#[c]⟩ else none
 | .dct _ ks ds,k=>k.key.bind fun k=>Qw ks ds k
 | _,_=>none
def rIxD:L2.R2:=fun x y H Q=>∃a v,x=.ref a∧DGet H a y (some v)∧Q v H
theorem ix_dict {k:Nat} (hr:Room k X.A):IxR X rIxD:=by
 intro value slice pins s σ H x y v u Q I rx ry h hs
 obtain⟨a,z,rfl,g,q⟩:=h
 cases rx
 refine PyProof.Rows.tail_any (ops:=[.ref a,u]) (dict_typeIs I g) PySem.F.slot_dict_getitem.lookup ?_ hs
 exact d_getItem (by have:=hr.units;omega) I g ry fun w' s' I' r'=>⟨z,H,I',r',q⟩
def cIdx (ca cb:CE):CE:=c2 ixD ca cb
theorem Jx {k:Nat} (hr:Room k X.A) (ha:SB X W M1 R1 a ca) (hb:SB X W M2 R2 b cb) (hs:PlainIx b:=by exact fun _ _=>rfl) (hd:djB R1 M2=true:=by decide):SB X W (M1++M2) R1 (.Subscript a b pos) (cIdx ca cb):=by
 obtain⟨ta,tb,pa,pb,q⟩:=JcP ha hb hd
 refine⟨tOp (fun x y H Q=>rIx X.K x y H Q∨rIxD x y H Q) ta tb,pe_ix (ix_seq.or (ix_dict hr)) pa pb hs,fun C fs env σ H tf Q hC G po=>q C fs env σ H tf _ hC G ?_⟩
 unfold cIdx c2 at po
 cases e1:cTwo ca cb env with
 | err=>rw[e1]at po;exact po
 | ex x env'=>rw[e1]at po;exact po
 | ok d env' =>
  rw[e1]at po
  intro x y fs' H' f1 f2 own G' s r1 r2 i1 i2
  have po':JfH W C (M1++M2) R1 tf fs env σ H Q (R.of (ixD d.1 d.2) env'):=po
  cases e2:ixD d.1 d.2 with
  | none=>rw[e2]at po';exact po'.elim
  | some z =>
   rw[e2]at po'
   obtain⟨d1,d2⟩:=d
   have sub:∀{g1 f g2:List Addr},(∀b∈g1++f++g2,b∈f1)→In R1 own fs' f:=fun {g1 f g2} h b hb=>i1 b (h b (by simp[hb]))
   have fin:∀(v:V) (g1 f g2:List Addr),Rep C H' z v f→(∀b∈g1++f++g2,b∈f1)→Q v H':=fun v g1 f g2 rv hf=>po' v fs' H' f own G' s rv (sub hf)
   cases d1 with
   | lst g ds =>
    cases d2 with
    | int i =>
     obtain⟨ad,vs,g1,g2,rfl,n,rs,_,ef⟩:=r1
     obtain⟨rfl,_⟩:=r2
     obtain⟨v,k1,f,k2,h1,h2,h3⟩:=Jf6 rs e2
     refine .inl (.inl ⟨ad,vs,i,v,rfl,rfl,by have:=(Nd.rd n G'.fr).sql;rwa[hC.1]at this,h1,fin v k1 f k2 h2 fun b hb=>?_⟩)
     rw[ef,h3];exact List.mem_append_right _ hb
    | _=>simp[ixD]at e2
   | tup ds =>
    cases d2 with
    | int i =>
     obtain⟨ad,vs,rfl,n,rs⟩:=r1
     obtain⟨rfl,_⟩:=r2
     obtain⟨v,k1,f,k2,h1,h2,h3⟩:=Jf6 rs e2
     refine .inl (.inr (.inl ⟨ad,vs,i,v,rfl,rfl,by rwa[hC.1]at n,h1,fin v k1 f k2 h2 fun b hb=>?_⟩))
     rw[h3];exact hb
    | _=>simp[ixD]at e2
   | str z0 =>
    cases d2 with
    | int i =>
     obtain⟨rfl,_⟩:=r1
     obtain⟨rfl,_⟩:=r2
     simp only[ixD]at e2
     split at e2
     ·rename_i hz
      obtain⟨ch,h1,rfl⟩:=Option.map_eq_some_iff.mp e2
      exact .inl (.inr (.inr ⟨z0,i,ch,rfl,rfl,hz,h1,fin _ [] [] [] ⟨rfl,rfl⟩ (fun b hb=>by simp at hb)⟩))
     ·cases e2
    | _=>simp[ixD]at e2
   | dct g ks ds =>
    obtain⟨ad,kvs,g1,g2,rfl,hd',hk,rs,ef⟩:=JbB G'.fr r1
    cases hk2:d2.key with
    | none=>simp[ixD,hk2]at e2
    | some ky =>
     simp only[ixD,hk2,Option.bind_some]at e2
     rw[←hk]at e2
     obtain⟨v,k1,f,k2,h1,h2,h3⟩:=Jdu rs e2
     have ey:=Je7 hk2 r2
     refine .inr ⟨ad,v,rfl,.inl ⟨kvs,ky,hd',ey,h1.symm⟩,fin v k1 f k2 h2 fun b hb=>?_⟩
     rw[ef,h3];exact List.mem_append_right _ hb
   | _=>simp[ixD]at e2
mutual
theorem JgE (I:Inv X pins σ H s) (hC:C.At X) (hF:Fr C H):∀(d e:D) (n:Nat) (v:V) (f1 f2:List Addr),eqOk n d=true→eqOk n e=true→Rep C H d v f1→Rep C H e v f2→∀x,pyEq d x=pyEq e x
 | .non,e,n,v,f1,f2,o1,o2,r1,r2=>by
  obtain⟨rfl,_⟩:=r1
  cases e<;>(try (simp[eqOk]at o2;done))<;>simp[Rep]at r2<;>exact fun _=>rfl
 | .bl b,e,n,v,f1,f2,o1,o2,r1,r2=>by
  obtain⟨rfl,_⟩:=r1
  cases e<;>(try (simp[eqOk]at o2;done))<;>simp[Rep]at r2
  rw[r2.1];exact fun _=>rfl
 | .int i,e,n,v,f1,f2,o1,o2,r1,r2=>by
  obtain⟨rfl,_⟩:=r1
  cases e<;>(try (simp[eqOk]at o2;done))<;>simp[Rep]at r2
  rw[r2.1];exact fun _=>rfl
 | .str i,e,n,v,f1,f2,o1,o2,r1,r2=>by
  obtain⟨rfl,_⟩:=r1
  cases e<;>(try (simp[eqOk]at o2;done))<;>simp[Rep]at r2
  rw[r2.1];exact fun _=>rfl
 | .ty i,e,n,v,f1,f2,o1,o2,r1,r2=>by simp[eqOk]at o1
 | .ftu _,e,n,v,f1,f2,o1,o2,r1,r2=>by simp[eqOk]at o1
 | .dct _ _ _,e,n,v,f1,f2,o1,o2,r1,r2=>by simp[eqOk]at o1
 | .obj _ _ _ _,e,n,v,f1,f2,o1,o2,r1,r2=>by simp[eqOk]at o1
 | .exc _ _ _,e,n,v,f1,f2,o1,o2,r1,r2=>by simp[eqOk]at o1
 | .lst g ds,e,n,v,f1,f2,o1,o2,r1,r2=>by
  obtain⟨a,vs,f,rfl,q,rs⟩:=JF hC hF r1
  cases n with
  | zero=>simp[eqOk]at o1
  | succ n =>
   cases e with
   | lst g2 es =>
    obtain⟨b,ws,f',e1,q2,rs2⟩:=JF hC hF r2
    cases e1
    rw[I.list_inj q2 q]at rs2
    have h:=eqs_cong I hC hF ds es n vs f f' (by simpa [eqOk] using o1) (by simpa [eqOk] using o2) rs rs2
    intro x
    cases x<;>simp only[pyEq]
    exact h _
   | tup es =>
    obtain⟨b,ws,e1,q2,rs2⟩:=Yg hC r2
    cases e1
    exact(ltu I q q2).elim
   | ty _=>simp[eqOk]at o2
   | ftu _=>simp[eqOk]at o2
   | dct _ _ _=>simp[eqOk]at o2
   | obj _ _ _ _=>simp[eqOk]at o2
   | exc _ _ _=>simp[eqOk]at o2
   | _=>simp[Rep]at r2
 | .tup ds,e,n,v,f1,f2,o1,o2,r1,r2=>by
  obtain⟨a,vs,rfl,q,rs⟩:=Yg hC r1
  cases n with
  | zero=>simp[eqOk]at o1
  | succ n =>
   cases e with
   | tup es =>
    obtain⟨b,ws,e1,q2,rs2⟩:=Yg hC r2
    cases e1
    rw[I.tuple_inj q2 q]at rs2
    have h:=eqs_cong I hC hF ds es n vs f1 f2 (by simpa [eqOk] using o1) (by simpa [eqOk] using o2) rs rs2
    intro x
    cases x<;>simp only[pyEq]
    exact h _
   | lst g es =>
    obtain⟨b,ws,f,e1,q2,rs2⟩:=JF hC hF r2
    cases e1
    exact(ltu I q2 q).elim
   | ty _=>simp[eqOk]at o2
   | ftu _=>simp[eqOk]at o2
   | dct _ _ _=>simp[eqOk]at o2
   | obj _ _ _ _=>simp[eqOk]at o2
   | exc _ _ _=>simp[eqOk]at o2
   | _=>simp[Rep]at r2
theorem eqs_cong (I:Inv X pins σ H s) (hC:C.At X) (hF:Fr C H):∀(ds es:List D) (n:Nat) (vs:List V) (f1 f2:List Addr),eqOks n ds=true→eqOks n es=true→Reps C H ds vs f1→Reps C H es vs f2→∀xs,pyEqs ds xs=pyEqs es xs
 | [],es,n,vs,f1,f2,o1,o2,r1,r2=>by
  have:=Jz r1
  have h2:=Jz r2
  cases es with
  | nil=>exact fun _=>rfl
  | cons e es=>simp at this h2;omega
 | d::ds,[],n,vs,f1,f2,o1,o2,r1,r2=>by
  have:=Jz r1
  have h2:=Jz r2
  simp at this h2;omega
 | d::ds,e::es,n,vs,f1,f2,o1,o2,⟨v,vs',g1,g2,e1,r1,rs1,_⟩,⟨w,ws',k1,k2,e2,r2,rs2,_⟩=>by
  rw[e1]at e2;cases e2
  simp only[eqOks,Bool.and_eq_true]at o1 o2
  intro xs
  cases xs with
  | nil=>rfl
  | cons x xs=>rw[pyEqs,pyEqs,JgE I hC hF d e n v g1 k1 o1.1 o2.1 r1 r2 x,eqs_cong I hC hF ds es n vs' g2 k2 o1.2 o2.2 rs1 rs2 xs]
end
theorem JbE:∀{ds:List D} {n i:Nat} {d:D},eqOks n ds=true→ds[i]?=some d→eqOk n d=true
 | [],n,i,d,_,h=>by simp at h
 | d0::ds,n,0,d,h,e=>by simp at e;subst e;simp only[eqOks,Bool.and_eq_true]at h;exact h.1
 | d0::ds,n,i+1,d,h,e=>by simp only[eqOks,Bool.and_eq_true]at h;exact JbE h.2 (by simpa using e)
open Classical in
noncomputable def inE (us:List Value) (ds:List D) (x:D) (y:Value):Bool:=decide (∃(j:Nat) (d:D),us[j]?=some y∧ds[j]?=some d∧pyEq d x=true)
theorem Jby {vs:List V} {us:List Value} (r:Vals vs us) {j:Nat} {u:Value} (h:us[j]?=some u):∃v,vs[j]?=some v∧RelV v u:=by
 have hl:=r.length
 have hj:j < vs.length:=by rw[hl];exact(List.getElem?_eq_some_iff.mp h).1
 obtain⟨u',h1,h2⟩:=r.get (i:=j) (x:=vs[j]) (by simp[hj])
 rw[h]at h1;cases h1
 exact⟨vs[j],by simp[hj],h2⟩
theorem JhR (I:Inv X pins σ H s) (hC:C.At X) (hF:Fr C H) {ds:List D} {x:D} {vs:List V} {us:List Value} {w:V} {xu:Value} {f1 f2:List Addr} {A:Around} (o1:eqOks 40 ds=true) (o2:eqOk 40 x=true) (rs:Reps C H ds vs f1) (rv:Vals vs us)
  (rx:Rep C H x w f2) (rw':RelV w xu) (hu:A.units+41 < cLine):(∀y∈us,EqAt A s y xu (inE us ds x y))∧us.any (inE us ds x)=ds.any (fun d=>pyEq d x):=by
 have hl:=Zx rs rv
 have val:∀(j:Nat) (u:Value) (d:D),us[j]?=some u→ds[j]?=some d→inE us ds x u=pyEq d x:=by
  intro j u d hj hd
  unfold inE
  obtain⟨v,g1,f,g2,hv,r,_⟩:=Jbm rs hd
  obtain⟨v2,hv2,rv2⟩:=Jby rv hj
  rw[hv]at hv2;cases hv2
  cases q:pyEq d x with
  | true =>
   classical
   exact decide_eq_true ⟨j,d,hj,hd,q⟩
  | false =>
   classical
   refine decide_eq_false ?_
   rintro ⟨j',d',hj',hd',q'⟩
   obtain⟨v',_,f',_,hv',r',_⟩:=Jbm rs hd'
   obtain⟨v3,hv3,rv3⟩:=Jby rv hj'
   rw[hv']at hv3;cases hv3
   have:v'=v:=rv3.inj rv2
   subst this
   rw[JgE I hC hF d' d 40 v' f' f (JbE o1 hd') (JbE o1 hd) r' r x]at q'
   rw[q]at q';cases q'
 refine⟨fun y hy=>?_,?_⟩
 ·obtain⟨j,hj⟩:=List.mem_iff_getElem?.mp hy
  have hjl:j < ds.length:=by rw[hl];exact(List.getElem?_eq_some_iff.mp hj).1
  have hd:ds[j]?=some ds[j]:=by simp[hjl]
  obtain⟨v,g1,f,g2,hv,r,_⟩:=Jbm rs hd
  obtain⟨v2,hv2,rv2⟩:=Jby rv hj
  rw[hv]at hv2;cases hv2
  rw[val j y _ hj hd]
  exact(Jgg I hC hF ds[j] x 40 A v w f f2 y xu (JbE o1 hd) o2 r rx rv2 rw' (by omega)).2
 ·rw[Bool.eq_iff_iff,List.any_eq_true,List.any_eq_true]
  constructor
  ·rintro ⟨y,hy,q⟩
   obtain⟨j,hj⟩:=List.mem_iff_getElem?.mp hy
   have hjl:j < ds.length:=by rw[hl];exact(List.getElem?_eq_some_iff.mp hj).1
   have hd:ds[j]?=some ds[j]:=by simp[hjl]
   exact⟨ds[j],List.getElem_mem hjl,by rw[←val j y _ hj hd];exact q⟩
  ·rintro ⟨d,hd,q⟩
   obtain⟨j,hj⟩:=List.mem_iff_getElem?.mp hd
   have hjl:j < us.length:=by rw[←hl];exact(List.getElem?_eq_some_iff.mp hj).1
   have hd':us[j]?=some us[j]:=by simp[hjl]
   exact⟨us[j],List.getElem_mem hjl,by rw[val j _ d hd' hj];exact q⟩
def inB:D→D→Option Bool
 | x,.lst _ ds=>if eqOk 40 x && eqOks 40 ds then some (ds.any fun d=>pyEq d x) else none
 | x,.tup ds=>if eqOk 40 x && eqOks 40 ds then some (ds.any fun d=>pyEq d x) else none
 | x,.dct _ ks ds=>x.key.map fun k=>(Qw ks ds k).isSome
 | .str i,.str j=>some (!(Builtin.Str.occurrences j i 0 j.length 1).isEmpty)
 | _,_=>none
def pIn (x y:D):Option D:=(inB x y).map .bl
def Uu (x y:D):Option D:=(inB x y).map fun b=>.bl (!b)
theorem Jhb {op:CmpOp} {neg:Bool} {kk:Nat} (hr:Room kk X.A)
  (hlist:∀{s:Shared} {l:Addr} {items:Array Value} {x:Value} {Q:Value→Shared→Prop} (e:Value→Bool),s.heap.IsList l items→(∀y,y∈items→EqAt X.A.in1 s y x (e y))→Q (.bool (if neg then !items.any e else items.any e)) s→wpAny (model X.prog X.w) X.A (compareOp op x (.ref l)) Q X.xe s)
  (htup:∀{s:Shared} {l:Addr} {items:Array Value} {x:Value} {Q:Value→Shared→Prop} (e:Value→Bool),s.heap.IsTuple l items→(∀y,y∈items→EqAt X.A.in1 s y x (e y))→Q (.bool (if neg then !items.any e else items.any e)) s→wpAny (model X.prog X.w) X.A (compareOp op x (.ref l)) Q X.xe s)
  (hdic:∀{pins s σ H a y u o} {Q:Value→Shared→Prop},Inv X pins σ H s→DGet H a y o→RelV y u→(∀s',Inv X pins σ H s'→Q (.bool (if neg then !o.isSome else o.isSome)) s')→wpAny (model X.prog X.w) X.A (compareOp op u (.ref a)) Q X.xe s)
  (hstr:OpR X (compareOp op) (fun x y H Q=>∃i j,x=.str i∧y=.str j∧Q (.bl (if neg then !(!(Builtin.Str.occurrences j i 0 j.length 1).isEmpty) else !(Builtin.Str.occurrences j i 0 j.length 1).isEmpty)) H)) :
  OD2 X (compareOp op) (fun x y=>(inB x y).map fun b=>.bl (if neg then !b else b)):=by
 intro pins s σ H x y v u Q I rx ry ⟨C,dx,dy,fx,fy,d,hC,hF,r1,r2,e,kk⟩
 obtain⟨b,hb,rfl⟩:=Option.map_eq_some_iff.mp e
 have q:=kk.here (v:=.bl (if neg then !b else b)) ⟨rfl,rfl⟩
 have hun:=hr.units
 have hin1:X.A.in1.units+41 < cLine:=by show X.A.units+1+41 < cLine;omega
 cases dy with
 | lst g ds =>
  have hb':(if eqOk 40 dx && eqOks 40 ds then some (ds.any fun d=>pyEq d dx) else none)=some b:=by cases dx<;>exact hb
  split at hb'
  ·rename_i ho
   cases hb'
   have ho:=Bool.and_eq_true_iff.mp ho
   obtain⟨a,vs,f,rfl,qa,rs⟩:=JF hC hF r2
   cases (show u=Value.ref a from ry)
   obtain⟨its,rv,pl,_⟩:=I.list qa
   obtain⟨h1,h2⟩:=JhR I hC hF (A:=X.A.in1) ho.2 ho.1 rs rv r1 rx hin1
   refine hlist (inE its ds dx) pl.isList (fun y hy=>h1 y (by simpa using hy)) ⟨.bl _,H,I,?_,q⟩
   rw[List.any_toArray,h2];rfl
  ·cases hb'
 | tup ds =>
  have hb':(if eqOk 40 dx && eqOks 40 ds then some (ds.any fun d=>pyEq d dx) else none)=some b:=by cases dx<;>exact hb
  split at hb'
  ·rename_i ho
   cases hb'
   have ho:=Bool.and_eq_true_iff.mp ho
   obtain⟨a,vs,rfl,qa,rs⟩:=Yg hC r2
   cases (show u=Value.ref a from ry)
   obtain⟨its,rv,pl,_⟩:=I.tuple qa
   obtain⟨h1,h2⟩:=JhR I hC hF (A:=X.A.in1) ho.2 ho.1 rs rv r1 rx hin1
   refine htup (inE its ds dx) (show s.heap.IsTuple a its.toArray from pl) (fun y hy=>h1 y (by simpa using hy)) ⟨.bl _,H,I,?_,q⟩
   rw[List.any_toArray,h2];rfl
  ·cases hb'
 | dct g ks ds =>
  have hb':(dx.key.map fun k=>(Qw ks ds k).isSome)=some b:=by cases dx<;>exact hb
  obtain⟨ky,hk,rfl⟩:=Option.map_eq_some_iff.mp hb'
  obtain⟨ad,kvs,g1,g2,rfl,hd',hks,rs,ef⟩:=JbB hF r2
  cases (show u=Value.ref ad from ry)
  have ex:=Je7 hk r1
  refine hdic I (.inl ⟨kvs,ky,hd',ex,rfl⟩) rx fun s' I'=>⟨.bl _,H,I',?_,q⟩
  have:(valV kvs ky).isSome=(Qw ks ds ky).isSome:=by
   rw[←hks]
   cases z:Qw (kvs.map (·.1)) ds ky with
   | none=>rw[Jet rs z];rfl
   | some w=>obtain⟨v',_,_,_,h1,_⟩:=Jdu rs z;rw[h1];rfl
  rw[this];rfl
 | str j =>
  cases dx with
  | str i =>
   obtain⟨rfl,_⟩:=r1
   obtain⟨rfl,_⟩:=r2
   simp only[inB]at hb
   cases hb
   exact hstr pins s σ H _ _ v u Q I rx ry ⟨i,j,rfl,rfl,q⟩
  | _=>simp[inB]at hb
 | _=>cases dx<;>simp[inB]at hb
theorem od_in {kk:Nat} (hr:Room kk X.A):OD2 X (compareOp .In) pIn :=
 Jhb (neg:=false) hr (fun e h1 h2 q=>in_listAt e h1 h2 (by simpa using q)) (fun e h1 h2 q=>in_tupleAt e h1 h2 (by simpa using q)) (fun I g r h=>d_in (by have:=hr.units;omega) I g r (by simpa using h)) (by simpa using op_in_str)
theorem QV {kk:Nat} (hr:Room kk X.A):OD2 X (compareOp .NotIn) Uu :=
 Jhb (neg:=true) hr (fun e h1 h2 q=>notIn_listAt e h1 h2 (by simpa using q)) (fun e h1 h2 q=>notIn_tupleAt e h1 h2 (by simpa using q)) (fun I g r h=>d_notIn (by have:=hr.units;omega) I g r (by simpa using h)) (by simpa using op_notin_str)
end
end VS
namespace VS
open PySem L2 SeqAt
section
variable {X:Cx} {W:WX} {M M1 M2 M3 Rs R1 R2 R3:List Nat} {e a b c:Expr} {es:List Expr} {ca cb cc:CE} {cs:CA} {pos p:Pos}
variable {pins:List (Addr × Obj)} {σ:St} {H:Hp} {s:Shared} {C:Ctx}
def cL (p:List D→Option D) (cs:CA):CE:=fun env=>(cs env).bind fun ds env=>R.of (p ds) env
theorem JiG {p:List D→Option D} (ha:SA X W M Rs es cs):∃t,PA X es t∧∀C fs env σ H tf Q,C.At X→Good C fs env σ H tf→Ut W C M tf fs env σ H Q (cL p cs env)→tCB (rDL X p) t σ H Q:=by
 obtain⟨t,pa,q⟩:=ha.go
 refine⟨t,pa,fun C fs env σ H tf Q hC G po=>?_⟩
 show t σ H fun vs H1=>rDL X p vs H1 Q
 refine q C fs env σ H tf _ hC G ?_
 unfold cL at po
 cases e1:cs env with
 | err=>rw[e1]at po;exact po
 | ex x env'=>rw[e1]at po;exact po
 | ok ds env' =>
  rw[e1]at po
  intro vs fs' H' fp own G' s r i
  have po':Ut W C M tf fs env σ H Q (R.of (p ds) env'):=po
  cases e2:p ds with
  | none=>rw[e2]at po';exact po'.elim
  | some z =>
   rw[e2]at po'
   exact⟨C,ds,fp,z,hC,G'.fr,r,e2,Zb G' s po'⟩
theorem Jp {id:String} {x:Str} {pf:Pos} {pr:List D→Option D} (hc:ODL X (.builtin id) pr) (hg:Gl X x) (hm:X.mg x=none) (hv:bootBuiltins x=some (.builtin id)) (ha:SA X W M Rs (e::es) cs) (hn:x ≠ "__name__" := by decide) (hdb:(x == ("__debug__" : Str))=false:=by decide)
  (he:starEach (e::es) X.env=(false,eval e X.env)::starEach es X.env:=by rfl) (hpl:(backTo pos (starEach es X.env)).any (·.1)=false:=by rfl):SO X W M (.Call (.Name x pf) (e::es) [] pos) (cL pr cs):=by
 obtain⟨t,pa,q⟩:=JiG (p:=pr) ha
 exact⟨_,pe_callB hc hg hm hv pa hn hdb he hpl,q⟩
theorem YH {T:String} {x:Str} {pf:Pos} {pr:List D→Option D} (hc:ODL X (.type T) pr) (hg:Gl X x) (hm:X.mg x=none) (hv:bootBuiltins x=some (.type T)) (ha:SA X W M Rs (e::es) cs) (hn:x ≠ "__name__" := by decide) (hdb:(x == ("__debug__" : Str))=false:=by decide)
  (he:starEach (e::es) X.env=(false,eval e X.env)::starEach es X.env:=by rfl) (hpl:(backTo pos (starEach es X.env)).any (·.1)=false:=by rfl):SO X W M (.Call (.Name x pf) (e::es) [] pos) (cL pr cs):=by
 obtain⟨t,pa,q⟩:=JiG (p:=pr) ha
 exact⟨_,pe_callTy hc hg hm hv pa hn hdb he hpl,q⟩
theorem Zj {T:String} {x:Str} (hg:Gl X x) (hm:X.mg x=none) (hv:bootBuiltins x=some (.type T)) (hn:x ≠ "__name__" := by decide) (hd:(x == ("__debug__" : Str))=false:=by decide):SO X W [] (.Name x pos) (cK (.ty T)) :=
 so_k (v:=.ty T) (pe_bltn hg hm hv (show RelV (.ty T) (.type T) from rfl) hn hd) (fun _ _ _ h=>h) fun _ _=>⟨rfl,rfl⟩
theorem Zn {d:D} {vs:List V} {fp} (r:Reps C H [d] vs fp):∃v,vs=[v]∧Rep C H d v fp:=by
 obtain⟨v,vs',f1,f2,rfl,r1,⟨rfl,rfl⟩,rfl⟩:=r
 exact⟨v,rfl,by simpa using r1⟩
theorem Jfs {d e:D} {vs:List V} {fp} (r:Reps C H [d,e] vs fp):∃v w f1 f2,vs=[v,w]∧Rep C H d v f1∧Rep C H e w f2∧fp=f1++f2:=by
 obtain⟨v,vs',f1,f2,rfl,r1,r2,rfl⟩:=r
 obtain⟨w,rfl,r3⟩:=Zn r2
 exact⟨v,w,f1,f2,rfl,r1,r3,rfl⟩
def pLen:List D→Option D
 | [.lst _ ds]=>some (.int ds.length)
 | [.tup ds]=>some (.int ds.length)
 | [.dct _ ks _]=>some (.int ks.length)
 | [.str s]=>if s.length≤sizeLine then some (.int s.length) else none
 | _=>none
theorem Yn:ODL X (.builtin "len") pLen:=by
 intro pins s σ H xs us Q I rv ⟨C,ds,fx,d,hC,hF,rs,e,k⟩
 unfold pLen at e
 split at e
 ·rename_i g zs
  obtain⟨v,rfl,r⟩:=Zn rs
  obtain⟨a,vs,f,rfl,q,rz⟩:=JF hC hF r
  cases e
  refine call_len_seq pins s σ H _ us Q I rv ⟨a,vs,rfl,.inl q,?_⟩
  rw[←Jz rz]
  exact k.here ⟨rfl,rfl⟩
 ·rename_i zs
  obtain⟨v,rfl,r⟩:=Zn rs
  obtain⟨a,vs,rfl,q,rz⟩:=Yg hC r
  cases e
  refine call_len_seq pins s σ H _ us Q I rv ⟨a,vs,rfl,.inr q,?_⟩
  rw[←Jz rz]
  exact k.here ⟨rfl,rfl⟩
 ·rename_i g ks zs
  obtain⟨v,rfl,r⟩:=Zn rs
  obtain⟨ad,kvs,g1,g2,rfl,hd,hk,rz,_⟩:=JbB hF r
  cases e
  obtain⟨u,rfl,ru⟩:=vals1 rv
  cases (show u=Value.ref ad from ru)
  refine d_len I hd fun t s' I'=>⟨.int kvs.length,H,I',⟨t,rfl⟩,?_⟩
  have:kvs.length=ks.length:=by rw[←hk];simp
  rw[this];exact k.here ⟨rfl,rfl⟩
 ·rename_i z
  obtain⟨v,rfl,r⟩:=Zn rs
  obtain⟨rfl,_⟩:=r
  split at e
  ·rename_i hz
   cases e
   exact call_len pins s σ H _ us Q I rv ⟨.str z,z.length,rfl,⟨hz,rfl⟩,k.here ⟨rfl,rfl⟩⟩
  ·cases e
 ·cases e
def pAbs:List D→Option D
 | [.int i]=>some (.int (if i < 0 then -i else i))
 | _=>none
theorem Jhm:ODL X (.builtin "abs") pAbs:=by
 refine ODL.of call_abs fun xs H Q ⟨C,ds,fx,d,hC,hF,rs,e,k⟩=>?_
 unfold pAbs at e
 split at e
 ·rename_i i
  obtain⟨v,rfl,r⟩:=Zn rs
  obtain⟨rfl,_⟩:=r
  cases e
  exact⟨i,rfl,k.here ⟨rfl,rfl⟩⟩
 ·cases e
def JgD:List D→Option D
 | [.int i,.int j]=>some (.int (if j < i then j else i))
 | _=>none
theorem od_min2 (hc:X.calm=true):ODL X (.builtin "min") JgD:=by
 refine ODL.of (call_min2 hc) fun xs H Q ⟨C,ds,fx,d,hC,hF,rs,e,k⟩=>?_
 unfold JgD at e
 split at e
 ·rename_i i j
  obtain⟨v,w,f1,f2,rfl,r,r',_⟩:=Jfs rs
  obtain⟨rfl,_⟩:=r
  obtain⟨rfl,_⟩:=r'
  cases e
  exact⟨i,j,rfl,k.here ⟨rfl,rfl⟩⟩
 ·cases e
def JbF:List D→Option D
 | [.int i]=>some (.int i)
 | [.bl b]=>some (.int (if b then 1 else 0))
 | _=>none
theorem Je3:ODL X (.type "int") JbF:=by
 refine ODL.of call_int1 fun xs H Q ⟨C,ds,fx,d,hC,hF,rs,e,k⟩=>?_
 unfold JbF at e
 split at e
 ·rename_i i
  obtain⟨v,rfl,r⟩:=Zn rs
  obtain⟨rfl,_⟩:=r
  cases e
  exact .inl ⟨i,rfl,k.here ⟨rfl,rfl⟩⟩
 ·rename_i i
  obtain⟨v,rfl,r⟩:=Zn rs
  obtain⟨rfl,_⟩:=r
  cases e
  exact .inr ⟨i,rfl,k.here ⟨rfl,rfl⟩⟩
 ·cases e
def D.tyn:D→Option String
 | .non=>some "NoneType"
 | .bl _=>some "bool"
 | .int _=>some "int"
 | .str _=>some "str"
 | .tup _=>some "tuple"
 | .lst _ _=>some "list"
 | .dct _ _ _=>some "dict"
 | _=>none
def isiB (a b:String):Bool:=a == b || (a == "bool" && b == "int")
def Jfj:List String:=["NoneType", "bool", "int", "str", "tuple", "list", "dict"]
def Jdh:List String:=["bool", "int", "str", "tuple", "list", "dict"]
theorem kit_tab:(Jfj.all fun a=>Jdh.all fun b=>kitB a b == some (isiB a b))=true:=by decide +kernel
theorem JgJ {K:PySem.W.Frag} {a b:String} (ha:a∈Jfj) (hb:b∈Jdh):PySem.W.kitOne K (.type a) (.type b)=some (isiB a b) :=
 kit_ty (eq_of_beq (List.all_eq_true.mp (List.all_eq_true.mp kit_tab a ha) b hb))
theorem JgT {d:D} {t:String} (h:d.tyn=some t):t∈Jfj:=by
 cases d<;>simp[D.tyn]at h<;>subst h<;>decide
def tyNm:D→Option String
 | .ty n=>if Jdh.contains n then some n else none
 | _=>none
def JgG:List D→Option (List String)
 | []=>some []
 | d::ds=>(tyNm d).bind fun n=>(JgG ds).map fun ns=>n::ns
def pIsi:List D→Option D
 | [d,.ty n]=>d.tyn.bind fun t=>(tyNm (.ty n)).map fun n=>.bl (isiB t n)
 | [d,.tup cs]=>d.tyn.bind fun t=>(JgG cs).map fun ns=>.bl (ns.any fun n=>isiB t n)
 | _=>none
theorem JhB {d:D} {t:String} {v:V} {fp} (hC:C.At X) (hF:Fr C H) (h:d.tyn=some t) (r:Rep C H d v fp):TyX X.K H v (.type t):=by
 cases d with
 | non=>cases h;obtain⟨rfl,_⟩:=r;exact .base .non
 | bl b=>cases h;obtain⟨rfl,_⟩:=r;exact .base (.bl b)
 | int b=>cases h;obtain⟨rfl,_⟩:=r;exact .base (.int b)
 | str b=>cases h;obtain⟨rfl,_⟩:=r;exact .base (.str b)
 | tup ds =>
  cases h
  obtain⟨a,vs,rfl,q,_⟩:=Yg hC r
  rcases q with (q | ⟨o,q⟩) | ⟨o,its,n,hk,hc,_⟩
  ·exact .base (.tup q)
  ·exact .fTuple q
  ·exact .kTuple hk hc
 | lst g ds =>
  cases h
  obtain⟨a,vs,f,rfl,q,_⟩:=JF hC hF r
  rcases q with (q | ⟨o,q⟩) | ⟨o,its,n,hk,hc,_⟩
  ·exact .base (.lst q)
  ·exact .base (.frz q)
  ·exact .kList hk hc
 | dct g ks ds =>
  cases h
  obtain⟨ad,kvs,g1,g2,rfl,hd,hk,rz,_⟩:=JbB hF r
  rcases hd with q | ⟨o,q⟩
  ·exact .base (.dK q)
  ·exact .fDict q
 | ty _=>cases h
 | ftu _=>cases h
 | obj _ _ _ _=>cases h
 | exc _ _ _=>cases h
theorem JfA {d:D} {n:String} (h:tyNm d=some n):d=.ty n∧n∈Jdh:=by
 cases d<;>simp[tyNm]at h
 obtain⟨h1,rfl⟩:=h
 exact⟨rfl,by simpa using h1⟩
theorem Jen {C:Ctx} {H:Hp}:∀{cs:List D} {ns:List String} {vs:List V} {fp},JgG cs=some ns→Reps C H cs vs fp→∃us:List Value,us=ns.map Value.type∧Paired ClsV vs us∧∀n∈ns,n∈Jdh
 | [],ns,vs,fp,h,⟨e,_⟩=>by subst e;cases h;exact⟨[],rfl,.nil,fun _ z=>nomatch z⟩
 | d::ds,ns,vs,fp,h,⟨v,vs',f1,f2,e,r,rs,_⟩=>by
  simp only[JgG]at h
  obtain⟨n,hn,h⟩:=Option.bind_eq_some_iff.mp h
  obtain⟨ns',hns,rfl⟩:=Option.map_eq_some_iff.mp h
  obtain⟨rfl,hm⟩:=JfA hn
  obtain⟨rfl,_⟩:=r
  subst e
  obtain⟨us,rfl,hp,hall⟩:=Jen hns rs
  refine⟨_,rfl,.cons (.ty n) hp,fun m hm'=>?_⟩
  rcases List.mem_cons.mp hm' with rfl | z
  ·exact hm
  ·exact hall m z
theorem JdO {K:PySem.W.Frag} {a:String} (ha:a∈Jfj):∀{ns:List String},(∀n∈ns,n∈Jdh)→PySem.W.kitAny K (.type a) (ns.map Value.type)=some (ns.any fun n=>isiB a n)
 | [],_=>rfl
 | n::ns,h=>by
  show PySem.W.kitAny K (.type a) (Value.type n::ns.map Value.type)=_
  unfold PySem.W.kitAny
  rw[JgJ ha (h n (by simp))]
  cases q:isiB a n with
  | true=>simp[q]
  | false=>simp[q];exact JdO ha fun m hm=>h m (by simp[hm])
theorem call_isiT':CallR X (.builtin "isinstance") (fun xs H Q=>∃(x:V) (tp:Addr) (cs:List V) (t:Value) (us:List Value) (b:Bool),xs=[x,.ref tp]∧SqT X.K H tp cs∧Paired ClsV cs us∧TyX X.K H x t∧PySem.W.kitAny X.K t us=some b∧Q (.bl b) H):=by
 intro pins s σ H xs us Q I r h
 obtain⟨x,tp,cs,t,ws,b,rfl,hT,k,ty,e,q⟩:=h
 obtain⟨u1,u2,rfl,r1,r2⟩:=vals2 r
 cases (show u2=Value.ref tp from r2)
 obtain⟨P,Z,p,hx⟩:=kit_of I r1 ty
 obtain⟨its,rv,⟨o,h1,h2,n,h3⟩,_⟩:=I.tuple hT
 have e3:=ClsV.all k rv
 subst e3
 obtain⟨oc,od,dt,sl⟩:=o
 simp only at h2 h3
 subst h2 h3
 exact PySem.W.kia_tup Z I.kIn p h1 e hx fun tk=>⟨.bl b,H,I.tok tk,rfl,q⟩
theorem UF:ODL X (.builtin "isinstance") pIsi:=by
 intro pins s σ H xs us Q I rv ⟨C,ds,fx,d,hC,hF,rs,e,k⟩
 unfold pIsi at e
 split at e
 ·rename_i d0 n
  obtain⟨v,w,f1,f2,rfl,r,r',_⟩:=Jfs rs
  obtain⟨rfl,_⟩:=r'
  obtain⟨t,ht,e⟩:=Option.bind_eq_some_iff.mp e
  obtain⟨m,hm,rfl⟩:=Option.map_eq_some_iff.mp e
  obtain⟨h1,h2⟩:=JfA hm
  cases h1
  exact call_isi pins s σ H _ us Q I rv ⟨v,.ty n,.type t,.type n,isiB t n,rfl,.ty n,JhB hC hF ht r,JgJ (JgT ht) h2,k.here ⟨rfl,rfl⟩⟩
 ·rename_i d0 cs
  obtain⟨v,w,f1,f2,rfl,r,r',_⟩:=Jfs rs
  obtain⟨a,vs,rfl,q,rz⟩:=Yg hC r'
  obtain⟨t,ht,e⟩:=Option.bind_eq_some_iff.mp e
  obtain⟨ns,hns,rfl⟩:=Option.map_eq_some_iff.mp e
  obtain⟨us',e1,hp,hall⟩:=Jen hns rz
  subst e1
  exact call_isiT' pins s σ H _ us Q I rv ⟨v,a,vs,.type t,_,ns.any fun n=>isiB t n,rfl,q,hp,JhB hC hF ht r,JdO (JgT ht) hall,k.here ⟨rfl,rfl⟩⟩
 ·cases e
def Jge (W:WX) (C:Ctx) (M:List Nat) (tf:List Addr) (fs:FPs) (env:Env) (σ:St) (H:Hp) (Q:List V→Hp→Prop):R (List D)→Prop
 | .ok ds env'=>∀vs fs' H' fp,Good C fs' env' σ H' (fp++tf)→Step M tf fs env H fs' env' H'→Reps C H' ds vs fp→Q vs H'
 | .ex x env'=>∀cv dd fs' H',Good C fs' env' σ H' tf→Step M tf fs env H fs' env' H'→ExIs C x cv dd H'→W cv dd σ H'
 | .err=>False
structure SAO (X:Cx) (W:WX) (M:List Nat) (es:List Expr) (c:CA):Prop where
 go:∃t,PA X es t∧∀C fs env σ H tf Q,C.At X→Good C fs env σ H tf→Jge W C M tf fs env σ H Q (c env)→t σ H Q
theorem Jj:SAO X W [] [] cNil:=by
 refine⟨tNil,pa_nil,fun C fs env σ H tf Q hC G po=>?_⟩
 exact po [] fs H [] (by simpa using G) .refl ⟨rfl,rfl⟩
theorem Good.swap {fs:FPs} {env:Env} {tf f1 f2:List Addr} (G:Good C fs env σ H (f2++(f1++tf))):Good C fs env σ H ((f1++f2)++tf):=by
 have p:(fs.flatten++((f1++f2)++tf)).Perm (fs.flatten++(f2++(f1++tf))):=by
  refine List.Perm.append_left _ ?_
  rw[←List.append_assoc]
  exact List.perm_append_comm.append_right _
 exact⟨G.le,G.lf,G.rep,p.nodup_iff.mpr G.nd,fun a ha=>G.own a (p.mem_iff.mp ha),fun a ha=>G.trk a (p.mem_iff.mp ha),G.fr,G.lk⟩
theorem Jc (ha:SO X W M1 a ca) (hr:SAO X W M2 es cs) (hs:starEach (a::es) X.env=(false,eval a X.env)::starEach es X.env:=by rfl):SAO X W (M1++M2) (a::es) (Jb ca cs):=by
 obtain⟨t,p,q⟩:=ha.go
 obtain⟨t2,p2,q2⟩:=hr.go
 refine⟨tCons t t2,pa_cons p p2 hs,fun C fs env σ H tf Q hC G po=>?_⟩
 refine q C fs env σ H tf _ hC G ?_
 unfold Jb at po
 cases e1:ca env with
 | err=>rw[e1]at po;exact po
 | ex x env' =>
  rw[e1]at po
  exact fun cv dd fs' H' G' s=>po cv dd fs' H' G' (s.weak (fun i hi=>List.mem_append_left _ hi) fun _ z=>z)
 | ok d env1 =>
  rw[e1]at po
  intro v fs1 H1 fp1 G1 s1 r1
  refine q2 C fs1 env1 σ H1 (fp1++tf) _ hC G1 ?_
  have po':Jge W C (M1++M2) tf fs env σ H Q ((cs env1).bind fun ds env=>.ok (d::ds) env):=po
  cases e2:cs env1 with
  | err=>rw[e2]at po';exact po'
  | ex x env' =>
   rw[e2]at po'
   exact fun cv dd fs' H' G' s=>po' cv dd fs' H' G'.drop (s1.trans (s.weak (fun _ z=>z) fun x hx=>List.mem_append_right _ hx))
  | ok ds env2 =>
   rw[e2]at po'
   intro vs fs2 H2 fp2 G2 s2 r2
   have po2:∀vs fs' H' fp,Good C fs' env2 σ H' (fp++tf)→Step (M1++M2) tf fs env H fs' env2 H'→Reps C H' (d::ds) vs fp→Q vs H':=po'
   exact po2 (v::vs) fs2 H2 (fp1++fp2) G2.swap (s1.trans (s2.weak (fun _ z=>z) fun x hx=>List.mem_append_right _ hx)) ⟨v,vs,fp1,fp2,rfl,r1.keep (fun x hx=>s2.t x (List.mem_append_left _ hx)) s2.m,r2,rfl⟩
def cTup (cs:CA):CE:=fun env=>(cs env).bind fun ds env=>if ds.length≤sizeLine then .ok (.tup ds) env else .err
def cLst (cs:CA):CE:=fun env=>(cs env).bind fun ds env=>if ds.length≤sizeLine then .ok (.lst .m ds) env else .err
theorem Good.new {fs:FPs} {env:Env} {tf:List Addr} {q:Addr} {o:HO} (G:Good C fs env σ H tf) (hq:H q=none) (mu:Mutb o):Good C fs env σ (upd H q o) (q::tf) :=
 G.grow (fp:=[q]) (Le.new hq) (by simp) (fun a ha=>by simp at ha;subst ha;exact hq) fun a ha=>by simp at ha;subst ha;exact⟨o,upd_same,mu⟩
theorem JH {kk} (h:SAO X W M es cs):SO X W M (.Tuple es kk pos) (cTup cs):=by
 obtain⟨t,p,q⟩:=h.go
 refine⟨tTup t,pe_tup p,fun C fs env σ H tf Q hC G po=>q C fs env σ H tf _ hC G ?_⟩
 unfold cTup at po
 cases e1:cs env with
 | err=>rw[e1]at po;exact po
 | ex x env'=>rw[e1]at po;exact po
 | ok ds env' =>
  rw[e1]at po
  intro vs fs' H' fp G' s r
  have po':Ut W C M tf fs env σ H Q (if ds.length≤sizeLine then .ok (.tup ds) env' else .err):=po
  by_cases hz:ds.length≤sizeLine
  ·rw[if_pos hz]at po'
   refine⟨by rw[←Jz r];exact hz,fun q hq=>?_⟩
   have le:=Le.new (o:=.tup vs) hq
   refine po' (.ref q) fs' _ fp (G'.le' le) ?_ ⟨q,vs,rfl,SqT.of upd_same,r.le le⟩
   have:=s.trans (Step.grow (M:=[]) G'.drop le)
   simpa using this
  ·rw[if_neg hz]at po';exact po'.elim
theorem Yk (h:SAO X W M es cs):SO X W M (.List es pos) (cLst cs):=by
 obtain⟨t,p,q⟩:=h.go
 refine⟨tLst t,pe_lst p,fun C fs env σ H tf Q hC G po=>q C fs env σ H tf _ hC G ?_⟩
 unfold cLst at po
 cases e1:cs env with
 | err=>rw[e1]at po;exact po
 | ex x env'=>rw[e1]at po;exact po
 | ok ds env' =>
  rw[e1]at po
  intro vs fs' H' fp G' s r
  have po':Ut W C M tf fs env σ H Q (if ds.length≤sizeLine then .ok (.lst .m ds) env' else .err):=po
  by_cases hz:ds.length≤sizeLine
  ·rw[if_pos hz]at po'
   refine⟨by rw[←Jz r];exact hz,fun q hq=>?_⟩
   have le:=Le.new (o:=.lst vs) hq
   refine po' (.ref q) fs' _ (q::fp) (G'.new hq trivial) ?_ ⟨q,vs,[q],fp,rfl,⟨upd_same,rfl⟩,r.le le,.inl rfl,rfl⟩
   have:=s.trans (Step.grow (M:=[]) G'.drop le)
   simpa using this
  ·rw[if_neg hz]at po';exact po'.elim
end
end VS
namespace VS
open PySem L2 SeqAt
inductive O where
 | nx (e:Env)
 | rt (d:D) (e:Env)
 | bk (e:Env)
 | ct (e:Env)
 | ex (x:Exn) (e:Env)
 | err
abbrev CS:=Env→O
structure StepS (M Vs:List Nat) (tf:List Addr) (fs:FPs) (env:Env) (σ:St) (H:Hp) (fs':FPs) (env':Env) (σ':St) (H':Hp):Prop where
 s:Step M tf fs env H fs' env' H'
 v:∀i,i∉Vs→σ'[i]?=σ[i]?
theorem StepS.refl {M Vs tf fs env σ H}:StepS M Vs tf fs env σ H fs env σ H:=⟨.refl,fun _ _=>rfl⟩
theorem StepS.trans {M1 M2 V1 V2 tf fs env σ H fs1 env1 σ1 H1 fs2 env2 σ2 H2} (a:StepS M1 V1 tf fs env σ H fs1 env1 σ1 H1) (b:StepS M2 V2 tf fs1 env1 σ1 H1 fs2 env2 σ2 H2):StepS (M1++M2) (V1++V2) tf fs env σ H fs2 env2 σ2 H2 :=
 ⟨a.s.trans b.s,fun i hi=>by
  rw[List.mem_append,not_or]at hi
  exact(b.v i hi.2).trans (a.v i hi.1)⟩
theorem StepS.weak {M M' Vs Vs' tf tf' fs env σ H fs1 env1 σ1 H1} (a:StepS M Vs tf fs env σ H fs1 env1 σ1 H1) (h:∀i∈M,i∈M') (hv:∀i∈Vs,i∈Vs') (ht:∀x∈tf',x∈tf):StepS M' Vs' tf' fs env σ H fs1 env1 σ1 H1 :=
 ⟨a.s.weak h ht,fun i hi=>a.v i fun z=>hi (hv i z)⟩
theorem Step.ss {M tf fs env H fs' env' H'} {σ:St} (a:Step M tf fs env H fs' env' H'):StepS M [] tf fs env σ H fs' env' σ H':=⟨a,fun _ _=>rfl⟩
section
variable (W:WX) (C:Ctx)
def Jao (M Vs:List Nat) (tf:List Addr) (fs:FPs) (env:Env) (σ:St) (H:Hp) (E:Ends):O→Prop
 | .nx env'=>∀fs' σ' H',Good C fs' env' σ' H' tf→StepS M Vs tf fs env σ H fs' env' σ' H'→E.nx σ' H'
 | .rt d env'=>∀v fs' σ' H' fp,Good C fs' env' σ' H' (fp++tf)→StepS M Vs tf fs env σ H fs' env' σ' H'→Rep C H' d v fp→E.rt v H'
 | .bk env'=>∀fs' σ' H',Good C fs' env' σ' H' tf→StepS M Vs tf fs env σ H fs' env' σ' H'→E.bk σ' H'
 | .ct env'=>∀fs' σ' H',Good C fs' env' σ' H' tf→StepS M Vs tf fs env σ H fs' env' σ' H'→E.ct σ' H'
 | .ex x env'=>∀cv dd fs' σ' H',Good C fs' env' σ' H' tf→StepS M Vs tf fs env σ H fs' env' σ' H'→ExIs C x cv dd H'→W cv dd σ' H'
 | .err=>False
def Jce (M Vs:List Nat) (tf:List Addr) (fs:FPs) (env:Env) (σ:St) (H:Hp) (Q:St→Hp→Prop):Option Env→Prop
 | some env'=>∀fs' σ' H',Good C fs' env' σ' H' tf→StepS M Vs tf fs env σ H fs' env' σ' H'→Q σ' H'
 | none=>False
end
structure SS (X:Cx) (W:WX) (M Vs:List Nat) (st:Stmt) (c:CS):Prop where
 go:∃t,PS X st t∧∀C fs env σ H tf E,C.At X→Good C fs env σ H tf→Jao W C M Vs tf fs env σ H E (c env)→t E σ H
structure SSs (X:Cx) (W:WX) (M Vs:List Nat) (sts:List Stmt) (c:CS):Prop where
 go:∃t,PSs X sts t∧∀C fs env σ H tf E,C.At X→Good C fs env σ H tf→Jao W C M Vs tf fs env σ H E (c env)→t E σ H
structure SG (X:Cx) (M Vs:List Nat) (tg:Expr) (g:D→Env→Option Env):Prop where
 go:∃t,PG X tg t∧∀C fs env σ H tf Q d v fp,C.At X→Good C fs env σ H (fp++tf)→Rep C H d v fp→Jce C M Vs tf fs env σ H Q (g d env)→t v σ H Q
structure SGs (X:Cx) (M Vs:List Nat) (tgs:List Expr) (g:List D→Env→Option Env):Prop where
 go:∃t,PGs X tgs t∧∀C fs env σ H tf Q ds vs fp,C.At X→Good C fs env σ H (fp++tf)→Reps C H ds vs fp→Jce C M Vs tf fs env σ H Q (g ds env)→t vs σ H Q
section
variable {C:Ctx} {H H':Hp} {fs fs':FPs} {env env':Env} {σ σ':St} {tf fp own:List Addr} {M Rs:List Nat}
theorem Good.put {i:Nat} {d:D} {v:V} (G:Good C fs env σ H (fp++tf)) (r:Rep C H d v fp):Good C (fs.set i fp) (env.set i (some d)) (σ.set i (some v)) H tf:=by
 by_cases hi:i < σ.length
 case neg =>
  have h1:=G.le
  have h2:=G.lf
  rw[List.set_eq_of_length_le (by omega),List.set_eq_of_length_le (by omega),List.set_eq_of_length_le (by omega)]
  exact G.drop
 have hl:i < fs.length:=by rw[G.lf];exact hi
 have p1:=Jd4 fs hl fp
 have p2:=Jal fs hl
 have sub:∀a∈(fs.set i fp).flatten++tf,a∈fs.flatten++(fp++tf):=fun a ha=>by
  rcases List.mem_append.mp ha with z | z
  ·rcases List.mem_append.mp (p1.mem_iff.mp z) with z | z
   ·simp[z]
   ·have:=p2.mem_iff.mpr (List.mem_append_right _ z)
    simp[this]
  ·simp[z]
 refine⟨by simpa using G.le,by simpa using G.lf,fun j d' e=>?_,?_,fun a ha=>G.own a (sub a ha),fun a ha=>G.trk a (sub a ha),G.fr,G.lk⟩
 ·rw[List.getElem?_set]at e
  by_cases hj:i=j
  ·subst hj
   have hle:i < env.length:=by rw[G.le];exact hi
   simp[hle]at e;subst e
   refine⟨v,by simp[hi],?_⟩
   rw[Zl fs i i fp hl,if_pos rfl];exact r
  ·rw[if_neg hj]at e
   obtain⟨w,e1,r1⟩:=G.rep j d' e
   refine⟨w,by rw[List.getElem?_set_ne hj];exact e1,?_⟩
   rw[Zl fs i j fp hl,if_neg (Ne.symm hj)];exact r1
 ·have nd:=G.nd
  have q:(fs.flatten++(fp++tf)).Perm (fs.getD i []++((fp++(fs.set i []).flatten)++tf)):=by
   refine (p2.append_right _).trans ?_
   rw[List.append_assoc]
   refine List.Perm.append_left _ ?_
   rw[←List.append_assoc]
   exact List.perm_append_comm.append_right _
  have nd2:=(List.nodup_append.mp (q.nodup_iff.mp nd)).2.1
  exact(p1.append_right tf).nodup_iff.mpr nd2
theorem Step.put {i:Nat} {d:D} (G:Good C fs env σ H (fp++tf)):Step [i] tf fs env H (fs.set i fp) (env.set i (some d)) H:=by
 refine⟨fun _ _=>rfl,fun j hj=>?_,fun j hj=>?_,fun _ _ _ _=>rfl,.refl H⟩
 ·rw[List.getD_eq_getElem?_getD,List.getElem?_set_ne (by intro z;subst z;simp at hj),List.getD_eq_getElem?_getD]
 ·rw[List.getElem?_set,if_neg (by intro z;subst z;simp at hj)]
theorem StepS.put {i:Nat} {d:D} {v:V} (G:Good C fs env σ H (fp++tf)):StepS [i] [i] tf fs env σ H (fs.set i fp) (env.set i (some d)) (σ.set i (some v)) H :=
 ⟨Step.put G,fun j hj=>by rw[List.getElem?_set,if_neg (by intro z;subst z;simp at hj)]⟩
end
section
variable {X:Cx} {W:WX} {M M1 M2 M3 V1 V2 V3 Rs R1 R2 R3:List Nat} {e a b c:Expr} {es:List Expr} {ca cb cc:CE} {cs:CA} {ct:CT} {pos p:Pos} {st:Stmt} {sts:List Stmt} {c1 c2' c3:CS}
variable {pins:List (Addr × Obj)} {σ:St} {H:Hp} {s:Shared} {C:Ctx}
def sNil:CS:=fun env=>.nx env
def O.bind (o:O) (f:CS):O:=match o with
 | .nx e=>f e
 | o=>o
def sSeq (c1 c2:CS):CS:=fun env=>(c1 env).bind c2
theorem JM:SSs X W [] [] [] sNil:=⟨tNext,pss_nil,fun C fs env σ H tf E hC G po=>po fs σ H G .refl⟩
theorem Jao.weak {tf fs env σ H E} {z:O} (h:∀i∈M1,i∈M2) (hv:∀i∈V1,i∈V2) (po:Jao W C M2 V2 tf fs env σ H E z):Jao W C M1 V1 tf fs env σ H E z:=by
 cases z with
 | nx env'=>exact fun fs' σ' H' G s=>po fs' σ' H' G (s.weak h hv fun _ z=>z)
 | rt d env'=>exact fun v fs' σ' H' fp G s r=>po v fs' σ' H' fp G (s.weak h hv fun _ z=>z) r
 | bk env'=>exact fun fs' σ' H' G s=>po fs' σ' H' G (s.weak h hv fun _ z=>z)
 | ct env'=>exact fun fs' σ' H' G s=>po fs' σ' H' G (s.weak h hv fun _ z=>z)
 | ex x env'=>exact fun cv dd fs' σ' H' G s=>po cv dd fs' σ' H' G (s.weak h hv fun _ z=>z)
 | err=>exact po
theorem Jao.step {tf fs env σ H E fs1 env1 σ1 H1} {z:O} (s1:StepS M1 V1 tf fs env σ H fs1 env1 σ1 H1) (po:Jao W C (M1++M2) (V1++V2) tf fs env σ H E z):Jao W C M2 V2 tf fs1 env1 σ1 H1 E z:=by
 cases z with
 | nx env'=>exact fun fs' σ' H' G s=>po fs' σ' H' G (s1.trans s)
 | rt d env'=>exact fun v fs' σ' H' fp G s r=>po v fs' σ' H' fp G (s1.trans s) r
 | bk env'=>exact fun fs' σ' H' G s=>po fs' σ' H' G (s1.trans s)
 | ct env'=>exact fun fs' σ' H' G s=>po fs' σ' H' G (s1.trans s)
 | ex x env'=>exact fun cv dd fs' σ' H' G s=>po cv dd fs' σ' H' G (s1.trans s)
 | err=>exact po
theorem ZG {M1 M2:List Nat}:∀i∈M1,i∈M1++M2:=fun _ h=>List.mem_append_left _ h
theorem Jed {M1 M2:List Nat}:∀i∈M2,i∈M1++M2:=fun _ h=>List.mem_append_right _ h
theorem post_seq {tf fs env σ H E} {f:CS} {z:O} (po:Jao W C (M1++M2) (V1++V2) tf fs env σ H E (z.bind f)) {K:Ends} (hr:K.rt=E.rt) (hb:K.bk=E.bk) (hc:K.ct=E.ct)
  (hn:∀env1,z=.nx env1→∀fs1 σ1 H1,Good C fs1 env1 σ1 H1 tf→StepS M1 V1 tf fs env σ H fs1 env1 σ1 H1→Jao W C M2 V2 tf fs1 env1 σ1 H1 E (f env1)→K.nx σ1 H1):Jao W C M1 V1 tf fs env σ H K z:=by
 cases z with
 | nx env1=>exact fun fs1 σ1 H1 G1 s1=>hn env1 rfl fs1 σ1 H1 G1 s1 (Jao.step s1 po)
 | rt d env'=>show ∀v fs' σ' H' fp,_→_→_→K.rt v H';rw[hr];exact Jao.weak ZG ZG (z:=.rt d env') po
 | bk env'=>show ∀fs' σ' H',_→_→K.bk σ' H';rw[hb];exact Jao.weak ZG ZG (z:=.bk env') po
 | ct env'=>show ∀fs' σ' H',_→_→K.ct σ' H';rw[hc];exact Jao.weak ZG ZG (z:=.ct env') po
 | ex x env'=>exact Jao.weak ZG ZG (z:=.ex x env') po
 | err=>exact po
theorem Jh (h1:SS X W M1 V1 st c1) (h2:SSs X W M2 V2 sts c2'):SSs X W (M1++M2) (V1++V2) (st::sts) (sSeq c1 c2'):=by
 obtain⟨t,p,q⟩:=h1.go
 obtain⟨t2,p2,q2⟩:=h2.go
 refine⟨tSeq t t2,pss_cons p p2,fun C fs env σ H tf E hC G po=>?_⟩
 refine q C fs env σ H tf _ hC G ?_
 exact post_seq (f:=c2') po rfl rfl rfl fun env1 _ fs1 σ1 H1 G1 s1 po1=>q2 C fs1 env1 σ1 H1 tf E hC G1 po1
theorem Jm (h1:SS X W M1 V1 st c1):SSs X W M1 V1 [st] c1:=by
 obtain⟨t,p,q⟩:=h1.go
 exact⟨t,pss_one p,q⟩
theorem Good.kill {fs env tf} (G:Good C fs env σ H tf) (i:Nat):Good C (fs.set i []) (env.set i none) σ H tf:=by
 refine⟨by simpa using G.le,by simpa using G.lf,fun j d' e=>?_,?_,fun a ha=>G.own a ?_,fun a ha=>G.trk a ?_,G.fr,G.lk⟩
 ·rw[List.getElem?_set]at e
  by_cases hj:i=j
  ·subst hj;simp at e
  ·rw[if_neg hj]at e
   obtain⟨v,e1,r⟩:=G.rep j d' e
   refine⟨v,e1,?_⟩
   have:(fs.set i []).getD j []=fs.getD j []:=by
    rw[List.getD_eq_getElem?_getD,List.getElem?_set_ne hj,List.getD_eq_getElem?_getD]
   rw[this];exact r
 ·by_cases hi:i < fs.length
  ·have q:=(Jal fs hi).append_right tf
   have:=q.nodup_iff.mp G.nd
   rw[List.append_assoc]at this
   exact(List.nodup_append.mp this).2.1
  ·rw[List.set_eq_of_length_le (by omega)];exact G.nd
 all_goals
  rcases List.mem_append.mp ha with z | z
  ·by_cases hi:i < fs.length
   ·exact List.mem_append_left _ ((Jal fs hi).mem_iff.mpr (List.mem_append_right _ z))
   ·rw[List.set_eq_of_length_le (by omega)]at z;exact List.mem_append_left _ z
  ·exact List.mem_append_right _ z
theorem Step.kill {fs:FPs} {env:Env} {tf} (i:Nat):Step [i] tf fs env H (fs.set i []) (env.set i none) H:=by
 refine⟨fun _ _=>rfl,fun j hj=>?_,fun j hj=>?_,fun _ _ _ _=>rfl,.refl H⟩
 ·have hj':i≠j:=fun z=>by subst z;simp at hj
  rw[List.getD_eq_getElem?_getD,List.getElem?_set_ne hj',List.getD_eq_getElem?_getD]
 ·rw[List.getElem?_set,if_neg (by intro z;subst z;simp at hj)]
def ZE (c:CE):CS:=fun env=>match c env with
 | .ok _ env=>.nx env
 | .ex x env=>.ex x env
 | .err=>.err
theorem Qa (h:SB X W M Rs e ca) (hs:swapsWith e none pos.line X.env=pure false:=by rfl):SS X W M [] (.Expr e pos) (ZE ca):=by
 obtain⟨t,p,q⟩:=h.go
 refine⟨tDrop t,ps_expr p hs,fun C fs env σ H tf E hC G po=>q C fs env σ H tf _ hC G ?_⟩
 unfold ZE at po
 cases e1:ca env with
 | err=>rw[e1]at po;exact po
 | ex x env'=>rw[e1]at po;exact fun cv dd fs' H' G' s=>po cv dd fs' σ H' G' s.ss
 | ok d env'=>rw[e1]at po;exact fun v fs' H' fp own G' s r i=>po fs' σ H' G'.drop s.ss
def sRet (c:CE):CS:=fun env=>match c env with
 | .ok d env=>.rt d env
 | .ex x env=>.ex x env
 | .err=>.err
theorem Jy (h:SO X W M e ca):SS X W M [] (.Return (some e) pos) (sRet ca):=by
 obtain⟨t,p,q⟩:=h.go
 refine⟨tRet t,ps_ret p,fun C fs env σ H tf E hC G po=>q C fs env σ H tf _ hC G ?_⟩
 unfold sRet at po
 cases e1:ca env with
 | err=>rw[e1]at po;exact po
 | ex x env'=>rw[e1]at po;exact fun cv dd fs' H' G' s=>po cv dd fs' σ H' G' s.ss
 | ok d env'=>rw[e1]at po;exact fun v fs' H' fp G' s r=>po v fs' σ H' fp G' s.ss r
def sIf (ct:CT) (c1 c2:CS):CS:=fun env=>match ct env with
 | .ok k env=>if k=true then c1 env else c2 env
 | .ex x env=>.ex x env
 | .err=>.err
theorem Yd {sa sb:List Stmt} (hc:ST X W M1 c ct) (ha:SSs X W M2 V2 sa c1) (hb:SSs X W M3 V3 sb c2'):SS X W (M1++(M2++M3)) (V2++V3) (.If c sa sb pos) (sIf ct c1 c2'):=by
 obtain⟨t,p,q⟩:=hc.go
 obtain⟨t2,p2,q2⟩:=ha.go
 obtain⟨t3,p3,q3⟩:=hb.go
 refine⟨tIfS t t2 t3,ps_if p p2 p3,fun C fs env σ H tf E hC G po=>q C fs env σ H tf _ hC G ?_⟩
 unfold sIf at po
 cases e1:ct env with
 | err=>rw[e1]at po;exact po
 | ex x env'=>rw[e1]at po;exact fun cv dd fs' H' G' s=>po cv dd fs' σ H' G' (s.ss.weak ZG (fun _ z=>nomatch z) fun _ z=>z)
 | ok k env1 =>
  rw[e1]at po
  intro fs1 H1 G1 s1
  have po1:Jao W C (M1++(M2++M3)) ([]++(V2++V3)) tf fs env σ H E (if k=true then c1 env1 else c2' env1):=po
  have po2:=Jao.step s1.ss po1
  cases k with
  | true=>exact q2 C fs1 env1 σ H1 tf E hC G1 (Jao.weak ZG ZG po2)
  | false=>exact q3 C fs1 env1 σ H1 tf E hC G1 (Jao.weak Jed Jed po2)
def gSet (i:Nat):D→Env→Option Env:=fun d env=>some (env.set i (some d))
theorem Jl (i:Nat) {x:Str} (hN:X.N.Nodup) (hi:X.N[i]?=some x:=by rfl) (hx:Loc X.env.scope x:=by first | exact .inl rfl | exact .inr rfl) (hf:X.fn x=true∨X.env.scope.names.lookup x=some .local:=by first | exact .inl rfl | exact .inr rfl | assumption):SG X [i] [i] (.Name x pos) (gSet i) :=
 ⟨gName i,pg_name hN hi hx hf,fun C fs env σ H tf Q d v fp hC G r po=>po _ _ _ (G.put r) (StepS.put G)⟩
def JL:List D→Env→Option Env
 | [],env=>some env
 | _,_=>none
def Je (g:D→Env→Option Env) (gs:List D→Env→Option Env):List D→Env→Option Env
 | d::ds,env=>(g d env).bind fun env=>gs ds env
 | _,_=>none
theorem Yo:SGs X [] [] [] JL:=by
 refine⟨gNil,pgs_nil,fun C fs env σ H tf Q ds vs fp hC G r po=>?_⟩
 cases ds with
 | nil=>obtain⟨rfl,rfl⟩:=r;exact⟨rfl,po fs σ H G.drop .refl⟩
 | cons d ds=>exact po.elim
theorem Js {t:Expr} {ts:List Expr} {g:D→Env→Option Env} {gs:List D→Env→Option Env} (h1:SG X M1 V1 t g) (h2:SGs X M2 V2 ts gs)
  (hs:(assignEach (t::ts) X.env).map (·.2)=assign t X.env::(assignEach ts X.env).map (·.2):=by rfl):SGs X (M1++M2) (V1++V2) (t::ts) (Je g gs):=by
 obtain⟨t1,p1,q1⟩:=h1.go
 obtain⟨t2,p2,q2⟩:=h2.go
 refine⟨gCons t1 t2,pgs_cons p1 p2 hs,fun C fs env σ H tf Q ds vs fp hC G r po=>?_⟩
 cases ds with
 | nil=>exact po.elim
 | cons d ds =>
  obtain⟨v,vs',f1,f2,rfl,r1,r2,rfl⟩:=r
  refine⟨v,vs',rfl,?_⟩
  have po':Jce C (M1++M2) (V1++V2) tf fs env σ H Q ((g d env).bind fun env=>gs ds env):=po
  refine q1 C fs env σ H (f2++tf) _ d v f1 hC (by rw[←List.append_assoc];exact G) r1 ?_
  cases e1:g d env with
  | none=>rw[e1]at po';exact po'.elim
  | some env1 =>
   rw[e1]at po'
   intro fs1 σ1 H1 G1 s1
   refine q2 C fs1 env1 σ1 H1 tf Q ds vs' f2 hC G1 (r2.keep (fun a ha=>s1.s.t a (List.mem_append_left _ ha)) s1.s.m) ?_
   have po2:Jce C (M1++M2) (V1++V2) tf fs env σ H Q (gs ds env1):=po'
   have w1:=s1.weak (fun _ z=>z) (fun _ z=>z) (tf':=tf) fun x hx=>List.mem_append_right _ hx
   cases e2:gs ds env1 with
   | none=>rw[e2]at po2;exact po2.elim
   | some env2 =>
    rw[e2]at po2
    exact fun fs2 σ2 H2 G2 s2=>po2 fs2 σ2 H2 G2 (w1.trans s2)
def JI (n:Nat) (gs:List D→Env→Option Env):D→Env→Option Env
 | .tup ds,env=>if ds.length=n then gs ds env else none
 | _,_=>none
theorem YX {ts:List Expr} {k:Nat} {gs:List D→Env→Option Env} (hc:X.calm=true) (h:SGs X M V1 ts gs) (hst:(assignEach ts X.env).findIdx? (·.1)=none:=by rfl) :
  SG X M V1 (.Tuple ts k pos) (JI (assignEach ts X.env).length gs):=by
 obtain⟨t,p,q⟩:=h.go
 refine⟨gTup X.K (assignEach ts X.env).length t,pg_tup hc p rfl hst,fun C fs env σ H tf Q d v fp hC G r po=>?_⟩
 cases d with
 | tup ds =>
  obtain⟨a,vs,rfl,hq,rs⟩:=Yg hC r
  have po':Jce C M V1 tf fs env σ H Q (if ds.length=(assignEach ts X.env).length then gs ds env else none):=po
  by_cases hl:ds.length=(assignEach ts X.env).length
  ·rw[if_pos hl]at po'
   exact⟨a,vs,rfl,hq,by rw[←Jz rs];exact hl,q C fs env σ H tf Q ds vs fp hC G rs po'⟩
  ·rw[if_neg hl]at po';exact po'.elim
 | _=>exact po.elim
def sAsg (c:CE) (g:D→Env→Option Env):CS:=fun env=>match c env with
 | .ok d env=>match g d env with
  | some env=>.nx env
  | none=>.err
 | .ex x env=>.ex x env
 | .err=>.err
theorem Jgc {t:TE} {g:TG} {gd:D→Env→Option Env} {tf fs env E} (hC:C.At X) (G:Good C fs env σ H tf)
  (q:∀C fs env σ H tf Q,C.At X→Good C fs env σ H tf→Ut W C M1 tf fs env σ H Q (ca env)→t σ H Q)
  (qg:∀C fs env σ H tf Q d v fp,C.At X→Good C fs env σ H (fp++tf)→Rep C H d v fp→Jce C M2 V2 tf fs env σ H Q (gd d env)→g v σ H Q)
  (po:Jao W C (M1++M2) V2 tf fs env σ H E (sAsg ca gd env)):t σ H fun x H1=>g x σ H1 E.nx:=by
 refine q C fs env σ H tf _ hC G ?_
 unfold sAsg at po
 cases e1:ca env with
 | err=>rw[e1]at po;exact po
 | ex x env'=>rw[e1]at po;exact fun cv dd fs' H' G' s=>po cv dd fs' σ H' G' (s.ss.weak ZG (fun _ z=>nomatch z) fun _ z=>z)
 | ok d env1 =>
  rw[e1]at po
  intro v fs1 H1 fp G1 s1 r1
  refine qg C fs1 env1 σ H1 tf _ d v fp hC G1 r1 ?_
  have po':Jao W C (M1++M2) V2 tf fs env σ H E (match gd d env1 with
   | some env=>.nx env
   | none=>.err):=po
  cases e2:gd d env1 with
  | none=>rw[e2]at po';exact po'
  | some env2 =>
   rw[e2]at po'
   exact fun fs2 σ2 H2 G2 s2=>po' fs2 σ2 H2 G2 (s1.ss.trans s2)
theorem ss_set (i:Nat) {x:Str} {pos':Pos} (hN:X.N.Nodup) (h:SO X W M e ca) (hi:X.N[i]?=some x:=by rfl) (hx:Loc X.env.scope x:=by first | exact .inl rfl | exact .inr rfl) (hs:swapsWith e (some (.Name x pos')) pos.line X.env=pure false:=by rfl) (hf:X.fn x=true∨X.env.scope.names.lookup x=some .local:=by first | exact .inl rfl | exact .inr rfl | assumption) :
  SS X W (M++[i]) [i] (.Assign [.Name x pos'] e pos) (sAsg ca (gSet i)):=by
 obtain⟨t,p,q⟩:=h.go
 refine⟨tAsg t (gName i),ps_set hN hi hx p hs hf,fun C fs env σ H tf E hC G po=>?_⟩
 exact Jgc (gd:=gSet i) (M2:=[i]) (V2:=[i]) hC G q (fun C fs env σ H tf Q d v fp hC G r po=>po _ _ _ (G.put r) (StepS.put G)) po
theorem UW {tg:Expr} {g:D→Env→Option Env} (h:SO X W M e ca) (hg:SG X M2 V2 tg g) (hs:swapsWithSole [tg] e pos.line X.env=pure false:=by rfl) (hw:swappedStores [tg] e X.env=pure none:=by rfl)
  (h1:(assignEach [tg] X.env).map (·.2)=[assign tg X.env]:=by rfl):SS X W (M++M2) V2 (.Assign [tg] e pos) (sAsg ca g):=by
 obtain⟨t,p,q⟩:=h.go
 obtain⟨t2,p2,q2⟩:=hg.go
 refine⟨tAsg t t2,ps_asg p p2 hs hw h1,fun C fs env σ H tf E hC G po=>?_⟩
 exact Jgc (gd:=g) (M2:=M2) (V2:=V2) hC G q q2 po
def sPar (i j:Nat) (cs:CA):CS:=fun env=>match cs env with
 | .ok [d,e] env=>.nx ((env.set i (some d)).set j (some e))
 | .ok _ _=>.err
 | .ex x env=>.ex x env
 | .err=>.err
theorem ss_par (i j:Nat) {x y:Str} {px py pt:Pos} {kt k2 pt2} (hc:X.calm=true) (hN:X.N.Nodup) (ha:SAO X W M [a,b] cs) (hi:X.N[i]?=some x:=by rfl) (hj:X.N[j]?=some y:=by rfl) (hij:i≠j:=by decide)
  (hx:X.env.scope.names.lookup x=some .local:=by rfl) (hy:X.env.scope.names.lookup y=some .local:=by rfl)
  (hw:swappedStores [.Tuple [.Name x px,.Name y py] kt pt] (.Tuple [a,b] k2 pt2) X.env=pure (some [x,y]):=by rfl)
  (hs:swapsWithSole [.Tuple [.Name x px,.Name y py] kt pt] (.Tuple [a,b] k2 pt2) pos.line X.env=pure false:=by rfl) :
  SS X W (M++([i]++[j])) ([i]++[j]) (.Assign [.Tuple [.Name x px,.Name y py] kt pt] (.Tuple [a,b] k2 pt2) pos) (sPar i j cs):=by
 obtain⟨t,p,q⟩:=ha.go
 refine⟨tPar i j t,ps_par hc hN hi hj hij hx hy p hw hs,fun C fs env σ H tf E hC G po=>q C fs env σ H tf _ hC G ?_⟩
 unfold sPar at po
 cases e1:cs env with
 | err=>rw[e1]at po;exact po
 | ex x env'=>rw[e1]at po;exact fun cv dd fs' H' G' s=>po cv dd fs' σ H' G' (s.ss.weak ZG (fun _ z=>nomatch z) fun _ z=>z)
 | ok ds env1 =>
  rw[e1]at po
  intro vs fs1 H1 fp G1 s1 r1
  match ds,r1,po with
  | [],_,po=>exact po.elim
  | [_],_,po=>exact po.elim
  | _::_::_::_,_,po=>exact po.elim
  | [d,d2],r1,po =>
   obtain⟨v,w,f1,f2,rfl,ra,r2,rfl⟩:=Jfs r1
   refine⟨v,w,rfl,?_⟩
   have G1':Good C fs1 env1 σ H1 (f1++(f2++tf)):=by rw[←List.append_assoc];exact G1
   have Ga:=G1'.put (i:=i) ra
   have Gb:=Ga.put (i:=j) r2
   have sa:=StepS.put (i:=i) (d:=d) (v:=v) G1'
   have sb:=StepS.put (i:=j) (d:=d2) (v:=w) Ga
   refine po _ _ _ Gb ?_
   exact s1.ss.trans ((sa.weak (fun _ z=>z) (fun _ z=>z) fun x hx=>List.mem_append_right _ hx).trans sb)
end
end VS
namespace VS
open PySem L2 SeqAt
structure SrcOk (C:Ctx) (J:It) (ds:List D) (fp:List Addr) (H1:Hp):Prop where
 walk:Walk J ds.length (fun H=>Fr C H∧Mono H1 H∧∀a∈fp,H a=H1 a) (fun i H x H'=>Le H H'∧∃d,ds[i]?=some d∧Rep C H' d x [])
def Jd6 (W:WX) (C:Ctx) (M Rs:List Nat) (tf:List Addr) (fs:FPs) (env:Env) (σ:St) (H:Hp) (Q:It→Hp→Prop):R (List D)→Prop
 | .ok ds env'=>∀J fs' H' fp own,Good C fs' env' σ H' (own++tf)→Step M tf fs env H fs' env' H'→SrcOk C J ds fp H'→In Rs own fs' fp→Q J H'
 | .ex x env'=>∀cv dd fs' H',Good C fs' env' σ H' tf→Step M tf fs env H fs' env' H'→ExIs C x cv dd H'→W cv dd σ H'
 | .err=>False
structure SI (X:Cx) (W:WX) (M Rs:List Nat) (tg e:Expr) (c:CA):Prop where
 go:∃t,PI X tg e t∧∀C fs env σ H tf Q,C.At X→Good C fs env σ H tf→Jd6 W C M Rs tf fs env σ H Q (c env)→t σ H Q
def UH (g:D→Env→Option Env) (body:CS):List D→Env→O
 | [],env=>.nx env
 | d::ds,env=>match g d env with
  | none=>.err
  | some env1=>match body env1 with
   | .nx env2=>UH g body ds env2
   | .ct env2=>UH g body ds env2
   | .bk env2=>.nx env2
   | o=>o
def sFor (src:CA) (g:D→Env→Option Env) (body:CS):CS:=fun env=>match src env with
 | .ok ds env=>UH g body ds env
 | .ex x env=>.ex x env
 | .err=>.err
section
variable {X:Cx} {W:WX} {M M1 M2 M3 V1 V2 V3 Rs R1 R2 R3:List Nat} {e a b c tg:Expr} {es:List Expr} {ca cb cc:CE} {cs src:CA} {ct:CT} {pos p:Pos} {st:Stmt} {sts body:List Stmt} {c1 c2' c3 cb':CS} {g:D→Env→Option Env}
variable {pins:List (Addr × Obj)} {σ:St} {H:Hp} {s:Shared} {C:Ctx}
theorem ZD (hp:PassesOwn (model X.prog X.w) X.A X.env X.xe) (hc:X.calm=true) (hi:SI X W M1 R1 tg e src) (hg:SG X M2 V2 tg g) (hb:SSs X W M3 V3 body cb')
  (hd:djB R1 (M2++M3)=true:=by decide) (hs:∀x,foldedSetIterable e X.env x=pure x:=by intro _;rfl):SS X W (M1++(M2++M3)) (V2++V3) (.For tg e body [] pos) (sFor src g cb'):=by
 obtain⟨t,p,q⟩:=hi.go
 obtain⟨t2,p2,q2⟩:=hg.go
 obtain⟨t3,p3,q3⟩:=hb.go
 refine⟨tFor t t2 t3,ps_for hp hc p p2 p3 hs,fun C fs env σ H tf E hC G po=>?_⟩
 show t σ H fun J H1=>_
 refine q C fs env σ H tf _ hC G ?_
 unfold sFor at po
 cases e1:src env with
 | err=>rw[e1]at po;exact po
 | ex x env'=>rw[e1]at po;exact fun cv dd fs' H' G' s=>po cv dd fs' σ H' G' (s.ss.weak ZG (fun _ z=>nomatch z) fun _ z=>z)
 | ok ds env1 =>
  rw[e1]at po
  intro J fs1 H1 fp own G1 s1 src1 i1
  have po1:Jao W C (M1++(M2++M3)) ([]++(V2++V3)) tf fs env σ H E (UH g cb' ds env1):=po
  have po2:=Jao.step s1.ss po1
  have dj:=Jaf hd
  refine for_it (n:=ds.length) src1.walk (fun i σ' H'=>∃fs' env',Good C fs' env' σ' H' (own++tf)∧StepS (M2++M3) (V2++V3) (own++tf) fs1 env1 σ H1 fs' env' σ' H'∧Jao W C (M2++M3) (V2++V3) tf fs1 env1 σ H1 E (UH g cb' (ds.drop i) env'))
   ⟨fs1,env1,G1,.refl,by simpa using po2⟩ ?_ ?_ ?_
  ·rintro i σ' H' hi ⟨fs',env',G',s',_⟩
   exact⟨G'.fr,s'.s.m,i1.keep s'.s dj⟩
  ·rintro i x σ' H' H2 hi ⟨fs',env',G',s',po'⟩ ⟨le,d,hd',rd⟩
   have hdrop:ds.drop i=d::ds.drop (i+1):=by
    rw[List.drop_eq_getElem_cons hi]
    have:=List.getElem?_eq_some_iff.mp hd'
    obtain⟨_,h⟩:=this
    rw[h]
   rw[hdrop]at po'
   have G2:=G'.le' le
   have s2:=s'.trans (Step.grow (M:=[]) G' le).ss
   have s2:StepS (M2++M3) (V2++V3) (own++tf) fs1 env1 σ H1 fs' env' σ' H2:=by simpa using s2
   have po3:Jao W C (M2++M3) (V2++V3) tf fs1 env1 σ H1 E (match g d env' with
    | none=>.err
    | some env1=>match cb' env1 with
     | .nx env2=>UH g cb' (ds.drop (i+1)) env2
     | .ct env2=>UH g cb' (ds.drop (i+1)) env2
     | .bk env2=>.nx env2
     | o=>o):=po'
   refine q2 C fs' env' σ' H2 (own++tf) _ d x [] hC (by simpa using G2) rd ?_
   cases eg:g d env' with
   | none=>rw[eg]at po3;exact po3.elim
   | some env3 =>
    rw[eg]at po3
    intro fs3 σ3 H3 G3 s3
    refine q3 C fs3 env3 σ3 H3 (own++tf) _ hC G3 ?_
    have po4:Jao W C (M2++M3) (V2++V3) tf fs1 env1 σ H1 E (match cb' env3 with
     | .nx env2=>UH g cb' (ds.drop (i+1)) env2
     | .ct env2=>UH g cb' (ds.drop (i+1)) env2
     | .bk env2=>.nx env2
     | o=>o):=po3
    have s3':StepS (M2++M3) (V2++V3) (own++tf) fs1 env1 σ H1 fs3 env3 σ3 H3:=(s2.trans (s3.weak ZG ZG (M':=M2++M3) (Vs':=V2++V3) fun _ z=>z)).weak (fun i hi=>(List.mem_append.mp hi).elim id id) (fun i hi=>(List.mem_append.mp hi).elim id id) fun _ z=>z
    have comp:∀{fs4 env4 σ4 H4},StepS M3 V3 (own++tf) fs3 env3 σ3 H3 fs4 env4 σ4 H4→StepS (M2++M3) (V2++V3) (own++tf) fs1 env1 σ H1 fs4 env4 σ4 H4:=fun {fs4 env4 σ4 H4} s4 =>
     (s3'.trans (s4.weak (M':=M2++M3) (Vs':=V2++V3) Jed Jed fun _ z=>z)).weak (fun i hi=>(List.mem_append.mp hi).elim id id) (fun i hi=>(List.mem_append.mp hi).elim id id) fun _ z=>z
    have tfw:∀{fs4 env4 σ4 H4},StepS M3 V3 (own++tf) fs3 env3 σ3 H3 fs4 env4 σ4 H4→StepS (M2++M3) (V2++V3) tf fs1 env1 σ H1 fs4 env4 σ4 H4:=fun {fs4 env4 σ4 H4} s4=>(comp s4).weak (fun _ z=>z) (fun _ z=>z) fun x hx=>List.mem_append_right _ hx
    cases eb:cb' env3 with
    | nx env4 =>
     rw[eb]at po4
     exact fun fs4 σ4 H4 G4 s4=>⟨fs4,env4,G4,comp s4,po4⟩
    | ct env4 =>
     rw[eb]at po4
     exact fun fs4 σ4 H4 G4 s4=>⟨fs4,env4,G4,comp s4,po4⟩
    | bk env4 =>
     rw[eb]at po4
     exact fun fs4 σ4 H4 G4 s4=>po4 fs4 σ4 H4 G4.drop (tfw s4)
    | rt d4 env4 =>
     rw[eb]at po4
     intro v fs4 σ4 H4 fp4 G4 s4 r4
     refine po4 v fs4 σ4 H4 fp4 (G4.sub ?_) (tfw s4) r4
     exact(List.Sublist.refl _).append (List.sublist_append_right _ _)
    | ex x4 env4 =>
     rw[eb]at po4
     exact fun cv dd fs4 σ4 H4 G4 s4=>po4 cv dd fs4 σ4 H4 G4.drop (tfw s4)
    | err=>rw[eb]at po4;exact po4
  ·rintro σ' H' ⟨fs',env',G',s',po'⟩
   rw[List.drop_length]at po'
   exact po' fs' σ' H' G'.drop (s'.weak (fun _ z=>z) (fun _ z=>z) fun x hx=>List.mem_append_right _ hx)
def ZP:List D→Option (List D)
 | [.int j]=>if -(2 ^ 62)≤j∧j < 2 ^ 62 then some ((List.range j.toNat).map fun i=>.int (i:Nat)) else none
 | _=>none
def ZH (cs:CA):CA:=fun env=>(cs env).bind fun ds env=>R.of (ZP ds) env
theorem srcRange {lo:Int} {n:Nat}:SrcOk C (Itr lo n) ((List.range n).map fun (i:Nat)=>D.int (lo+(i:Nat))) [] H:=by
 refine⟨?_⟩
 have hl:((List.range n).map fun (i:Nat)=>D.int (lo+(i:Nat))).length=n:=by simp
 rw[hl]
 refine walk_range.mono (fun _ _=>trivial) fun i H x H' hi _ ⟨e1,e2⟩=>?_
 subst e1 e2
 exact⟨.refl _,.int (lo+i),by simp[hi],rfl,rfl⟩
theorem Jae {p2:Pos} (hg:Gl X "range") (hm:X.mg "range" = none) (ha:SA X W M Rs [a] cs) (hs:starEach [a] X.env=[(false,eval a X.env)]:=by rfl):SI X W M [] tg (.Call (.Name "range" p2) [a] [] pos) (ZH cs):=by
 obtain⟨t,p,q⟩:=ha.go
 refine⟨iRng1 t,pi_range1 hg hm p hs,fun C fs env σ H tf Q hC G po=>q C fs env σ H tf _ hC G ?_⟩
 unfold ZH at po
 cases e1:cs env with
 | err=>rw[e1]at po;exact po
 | ex x env'=>rw[e1]at po;exact po
 | ok ds env1 =>
  rw[e1]at po
  intro vs fs1 H1 fp own G1 s1 r1 i1
  have po':Jd6 W C M [] tf fs env σ H Q (R.of (ZP ds) env1):=po
  cases e2:ZP ds with
  | none=>rw[e2]at po';exact po'.elim
  | some its =>
   rw[e2]at po'
   unfold ZP at e2
   split at e2
   ·rename_i j
    obtain⟨v,rfl,r⟩:=Zn r1
    obtain⟨rfl,_⟩:=r
    split at e2
    ·rename_i hj
     cases e2
     refine⟨j,rfl,hj.1,hj.2,po' _ fs1 H1 [] [] (by simpa using G1.drop) s1 ?_ fun _ z=>nomatch z⟩
     have:=srcRange (C:=C) (H:=H1) (lo:=0) (n:=j.toNat)
     simpa using this
    ·cases e2
   ·cases e2
def iSeq (c:CE):CA:=fun env=>(c env).bind fun d env=>match d with
 | .lst _ ds=>if imms ds then .ok ds env else .err
 | _=>.err
theorem Qn:∀{ds:List D} {vs:List V} {fp:List Addr} {i:Nat} {x:V},Reps C H ds vs fp→imms ds=true→vs[i]?=some x→∃d,ds[i]?=some d∧Rep C H d x []
 | [],vs,fp,i,x,⟨e,_⟩,_,h=>by subst e;simp at h
 | d::ds,vs,fp,0,x,⟨v,vs',f1,f2,e,r,rs,_⟩,hi,h=>by
  subst e
  have z:=Bool.and_eq_true_iff.mp hi
  simp at h;subst h
  have:=r.imm z.1
  subst this
  exact⟨d,by simp,r⟩
 | d::ds,vs,fp,i+1,x,⟨v,vs',f1,f2,e,r,rs,_⟩,hi,h=>by
  subst e
  have z:=Bool.and_eq_true_iff.mp hi
  obtain⟨d',h1,h2⟩:=Qn (i:=i) rs z.2 (by simpa using h)
  exact⟨d',by simpa using h1,h2⟩
theorem si_list (h:SB X W M Rs e ca):SI X W M Rs tg e (iSeq ca):=by
 obtain⟨t,p,q⟩:=h.go
 refine⟨iList X.K t,pi_list p,fun C fs env σ H tf Q hC G po=>q C fs env σ H tf _ hC G ?_⟩
 unfold iSeq at po
 cases e1:ca env with
 | err=>rw[e1]at po;exact po
 | ex x env'=>rw[e1]at po;exact po
 | ok d env1 =>
  rw[e1]at po
  intro v fs1 H1 fp own G1 s1 r1 i1
  cases d with
  | lst g ds =>
   have po':Jd6 W C M Rs tf fs env σ H Q (if imms ds then .ok ds env1 else .err):=po
   by_cases hi:imms ds=true
   ·rw[if_pos hi]at po'
    have r1':=r1
    obtain⟨a,vs,f1,f2,rfl,n,rs,hz,ef⟩:=r1
    have sq:SqL X.K H1 a vs:=by have:=(Nd.rd n G1.fr).sql;rwa[hC.1]at this
    refine⟨a,rfl,⟨vs,sq⟩,po' _ fs1 H1 fp own G1 s1 ⟨?_⟩ i1⟩
    have z:=rs.imm hi
    subst z
    rw[Jz rs]
    refine Walk.mono (walk_list (K:=X.K) (a:=a) (xs:=vs)) (fun H2 ⟨hf2,hm,hk⟩=>?_) fun i H2 x H3 hi2 ⟨hf2,hm,hk⟩ ⟨e1,e2⟩=>?_
    ·have n2:Nd C H2 g a (.lst vs) f1:=Nd.keep n (fun b hb=>hk b (by rw[ef];simp[hb])) hm
     have:=(Nd.rd n2 hf2).sql;rwa[hC.1]at this
    ·subst e1
     have rs2:Reps C H3 ds vs []:=rs.keep (fun b hb=>nomatch hb) hm
     obtain⟨d,h1,h2⟩:=Qn rs2 hi e2
     exact⟨.refl _,d,h1,h2⟩
   ·rw[if_neg hi]at po';exact po'.elim
  | _=>exact po.elim
def Jid (c:CE):CA:=fun env=>(c env).bind fun d env=>match d with
 | .tup ds=>if imms ds then .ok ds env else .err
 | _=>.err
theorem si_tup (h:SB X W M Rs e ca):SI X W M Rs tg e (Jid ca):=by
 obtain⟨t,p,q⟩:=h.go
 refine⟨iTup X.K t,pi_tup p,fun C fs env σ H tf Q hC G po=>q C fs env σ H tf _ hC G ?_⟩
 unfold Jid at po
 cases e1:ca env with
 | err=>rw[e1]at po;exact po
 | ex x env'=>rw[e1]at po;exact po
 | ok d env1 =>
  rw[e1]at po
  intro v fs1 H1 fp own G1 s1 r1 i1
  cases d with
  | tup ds =>
   have po':Jd6 W C M Rs tf fs env σ H Q (if imms ds then .ok ds env1 else .err):=po
   by_cases hi:imms ds=true
   ·rw[if_pos hi]at po'
    have r1':=r1
    obtain⟨a,vs,rfl,n,rs⟩:=r1
    have sq:SqT X.K H1 a vs:=by rwa[hC.1]at n
    refine⟨a,rfl,⟨vs,sq⟩,po' _ fs1 H1 fp own G1 s1 ⟨?_⟩ i1⟩
    have z:=rs.imm hi
    subst z
    rw[Jz rs]
    refine Walk.mono (walk_tup (K:=X.K) (a:=a) (xs:=vs)) (fun H2 ⟨hf2,hm,hk⟩=>?_) fun i H2 x H3 hi2 ⟨hf2,hm,hk⟩ ⟨e1,e2⟩=>?_
    ·exact Jbk sq hm
    ·subst e1
     have rs2:Reps C H3 ds vs []:=rs.keep (fun b hb=>nomatch hb) hm
     obtain⟨d,h1,h2⟩:=Qn rs2 hi e2
     exact⟨.refl _,d,h1,h2⟩
   ·rw[if_neg hi]at po';exact po'.elim
  | _=>exact po.elim
end
end VS
namespace VS
open PySem L2 SeqAt PySem.Spec PyProof.Rows
section
variable {C C':Ctx} {H:Hp}
structure Enter (C C':Ctx) (H:Hp):Prop where
 k:C'.K=C.K
 mg:C'.mg=C.mg
 h0:C'.H0=H
 lk:C'.Lk=C.Lk
 fr:Fr C H
 a:∀x∈C'.A,(x∈C.A∨C.H0 x=none)∧∃o,H x=some o∧Mutb o
theorem Enter.lnd {g a u fp} (E:Enter C C' H) (n:Nd C H g a u fp) (hd:∀b∈fp,b∉C'.A):Nd C' H g.lend a u []:=by
 have z:∀{o w},H a=some (.frz o w)→a∉C'.A:=fun {o w} e hm=>by
  obtain⟨_,q,e2,mu⟩:=E.a a hm
  rw[e]at e2;cases e2;exact mu
 cases g with
 | m =>
  obtain⟨e,rfl⟩:=n
  exact⟨.inl ⟨by rw[E.h0];exact .inl e,hd a (by simp)⟩,rfl⟩
 | l =>
  obtain⟨⟨r,na⟩ | h,_⟩:=n
  ·have nA:a∉C'.A:=fun hm=>by
    obtain⟨q,o,e,mu⟩:=E.a a hm
    rcases q with q | q
    ·exact na q
    ·rcases r with r | ⟨ob,r⟩<;>rw[q]at r<;>cases r
   refine⟨.inl ⟨?_,nA⟩,rfl⟩
   rw[E.h0]
   rcases r with r | ⟨ob,r⟩
   ·rcases E.fr a _ r na with q | ⟨_,_,ob,q⟩
    ·exact .inl q
    ·exact .inr ⟨ob,q⟩
   ·rcases E.fr a _ r na with q | ⟨_,mu,ob2,q⟩
    ·exact .inr ⟨ob,q⟩
    ·exact mu.elim
  ·exact⟨.inr (by rw[E.k];exact h),rfl⟩
 | f =>
  obtain⟨⟨o,e⟩,x,_⟩:=n
  exact⟨.inl ⟨by rw[E.h0];exact .inr ⟨o,e⟩,z e⟩,rfl⟩
 | k =>
  obtain⟨⟨o,e⟩,_⟩:=n
  exact⟨.inl ⟨by rw[E.h0];exact .inr ⟨o,e⟩,z e⟩,rfl⟩
theorem Enter.nd {g a u fp} (E:Enter C C' H) (n:Nd C H g a u fp):Nd C' H g a u fp:=by
 cases g with
 | m=>exact n
 | l=>obtain⟨h,e⟩:=n;subst e;exact E.lnd (g:=.l) ⟨h,rfl⟩ fun _ z=>nomatch z
 | f=>obtain⟨⟨o,e⟩,x,q⟩:=n;exact⟨⟨o,e⟩,by rw[E.lk];exact x,q⟩
 | k=>exact n
theorem JaX {c Ca} (h:C'.mg=C.mg) (q:Jft C c Ca):Jft C' c Ca:=by unfold Jft at *;rw[h];exact q
mutual
theorem Rep.enter (E:Enter C C' H):∀{d:D} {v:V} {fp:List Addr},Rep C H d v fp→Rep C' H d v fp
 | .non,v,fp,h=>h
 | .bl b,v,fp,h=>h
 | .int i,v,fp,h=>h
 | .str s,v,fp,h=>h
 | .ty s,v,fp,h=>h
 | .tup ds,v,fp,⟨a,vs,e,t,r⟩=>⟨a,vs,e,by rw[E.k];exact t,Reps.enter E r⟩
 | .ftu ds,v,fp,⟨a,vs,e,t,r⟩=>⟨a,vs,e,t,Reps.enter E r⟩
 | .lst g ds,v,fp,⟨a,vs,f1,f2,e,n,r,z,e2⟩=>⟨a,vs,f1,f2,e,E.nd n,Reps.enter E r,z,e2⟩
 | .dct g ks ds,v,fp,⟨a,vs,f1,f2,e,n,q,r,z,e2⟩=>⟨a,vs,f1,f2,e,E.nd n,q,Reps.enter E r,z,e2⟩
 | .obj g c ns ds,v,fp,⟨a,Ca,dx,fs,f1,f2,e,c1,n,q,r,z,e2⟩=>⟨a,Ca,dx,fs,f1,f2,e,JaX E.mg c1,E.nd n,q,Reps.enter E r,z,e2⟩
 | .exc c ns ds,v,fp,⟨a,Ca,d,fs,e,c1,n,x,q,r,e2⟩=>⟨a,Ca,d,fs,e,JaX E.mg c1,n,x,q,Reps.enter E r,e2⟩
theorem Reps.enter (E:Enter C C' H):∀{ds:List D} {vs:List V} {fp:List Addr},Reps C H ds vs fp→Reps C' H ds vs fp
 | [],vs,fp,h=>h
 | d::ds,vs,fp,⟨v,vs',f1,f2,e,r,rs,e2⟩=>⟨v,vs',f1,f2,e,Rep.enter E r,Reps.enter E rs,e2⟩
end
mutual
theorem Rep.lend (E:Enter C C' H):∀{d:D} {v:V} {fp:List Addr},Rep C H d v fp→(∀b∈fp,b∉C'.A)→Rep C' H d.lend v []
 | .non,v,fp,h,_=>⟨h.1,rfl⟩
 | .bl b,v,fp,h,_=>⟨h.1,rfl⟩
 | .int i,v,fp,h,_=>⟨h.1,rfl⟩
 | .str s,v,fp,h,_=>⟨h.1,rfl⟩
 | .ty s,v,fp,h,_=>⟨h.1,rfl⟩
 | .tup ds,v,fp,⟨a,vs,e,t,r⟩,hd=>⟨a,vs,e,by rw[E.k];exact t,Reps.lend E r hd⟩
 | .ftu ds,v,fp,⟨a,vs,e,t,r⟩,hd=>⟨a,vs,e,t,Reps.lend E r hd⟩
 | .lst g ds,v,fp,⟨a,vs,f1,f2,e,n,r,z,e2⟩,hd=>⟨a,vs,[],[],e,E.lnd n (fun b hb=>hd b (by rw[e2];exact List.mem_append_left _ hb)),Reps.lend E r (fun b hb=>hd b (by rw[e2];exact List.mem_append_right _ hb)),.inr rfl,rfl⟩
 | .dct g ks ds,v,fp,⟨a,vs,f1,f2,e,n,q,r,z,e2⟩,hd=>⟨a,vs,[],[],e,E.lnd n (fun b hb=>hd b (by rw[e2];exact List.mem_append_left _ hb)),q,Reps.lend E r (fun b hb=>hd b (by rw[e2];exact List.mem_append_right _ hb)),.inr rfl,rfl⟩
 | .obj g c ns ds,v,fp,⟨a,Ca,dx,fs,f1,f2,e,c1,n,q,r,z,e2⟩,hd=>⟨a,Ca,dx,fs,[],[],e,JaX E.mg c1,E.lnd n (fun b hb=>hd b (by rw[e2];exact List.mem_append_left _ hb)),q,Reps.lend E r (fun b hb=>hd b (by rw[e2];exact List.mem_append_right _ hb)),.inr rfl,rfl⟩
 | .exc c ns ds,v,fp,⟨a,Ca,d,fs,e,c1,n,x,q,r,e2⟩,_=>⟨a,Ca,d,fs,e,JaX E.mg c1,n,x,q,Reps.enter E r,rfl⟩
theorem Reps.lend (E:Enter C C' H):∀{ds:List D} {vs:List V} {fp:List Addr},Reps C H ds vs fp→(∀b∈fp,b∉C'.A)→Reps C' H (lends ds) vs []
 | [],vs,fp,h,_=>⟨h.1,rfl⟩
 | d::ds,vs,fp,⟨v,vs',f1,f2,e,r,rs,e2⟩,hd=>⟨v,vs',[],[],e,Rep.lend E r (fun b hb=>hd b (by rw[e2];exact List.mem_append_left _ hb)),Reps.lend E rs (fun b hb=>hd b (by rw[e2];exact List.mem_append_right _ hb)),rfl⟩
end
mutual
theorem Rep.leave (hk:C'.K=C.K) (hm:C'.mg=C.mg) (hl:C'.Lk=C.Lk):∀{d:D} {v:V} {fp:List Addr},Rep C' H d v fp→d.nol=true→Rep C H d v fp
 | .non,v,fp,h,_=>h
 | .bl b,v,fp,h,_=>h
 | .int i,v,fp,h,_=>h
 | .str s,v,fp,h,_=>h
 | .ty s,v,fp,h,_=>h
 | .tup ds,v,fp,⟨a,vs,e,t,r⟩,hn=>⟨a,vs,e,by rw[←hk];exact t,Reps.leave hk hm hl r hn⟩
 | .ftu ds,v,fp,⟨a,vs,e,t,r⟩,hn=>⟨a,vs,e,t,Reps.leave hk hm hl r hn⟩
 | .lst g ds,v,fp,⟨a,vs,f1,f2,e,n,r,z,e2⟩,hn=>⟨a,vs,f1,f2,e,nd_leave hl n (Bool.and_eq_true_iff.mp hn).1,Reps.leave hk hm hl r (Bool.and_eq_true_iff.mp hn).2,z,e2⟩
 | .dct g ks ds,v,fp,⟨a,vs,f1,f2,e,n,q,r,z,e2⟩,hn=>⟨a,vs,f1,f2,e,nd_leave hl n (Bool.and_eq_true_iff.mp hn).1,q,Reps.leave hk hm hl r (Bool.and_eq_true_iff.mp hn).2,z,e2⟩
 | .obj g c ns ds,v,fp,⟨a,Ca,dx,fs,f1,f2,e,c1,n,q,r,z,e2⟩,hn=>⟨a,Ca,dx,fs,f1,f2,e,JaX hm.symm c1,nd_leave hl n (Bool.and_eq_true_iff.mp hn).1,q,Reps.leave hk hm hl r (Bool.and_eq_true_iff.mp hn).2,z,e2⟩
 | .exc c ns ds,v,fp,⟨a,Ca,d,fs,e,c1,n,x,q,r,e2⟩,hn=>⟨a,Ca,d,fs,e,JaX hm.symm c1,n,x,q,Reps.leave hk hm hl r hn,e2⟩
theorem Reps.leave (hk:C'.K=C.K) (hm:C'.mg=C.mg) (hl:C'.Lk=C.Lk):∀{ds:List D} {vs:List V} {fp:List Addr},Reps C' H ds vs fp→nols ds=true→Reps C H ds vs fp
 | [],vs,fp,h,_=>h
 | d::ds,vs,fp,⟨v,vs',f1,f2,e,r,rs,e2⟩,hn=>⟨v,vs',f1,f2,e,Rep.leave hk hm hl r (Bool.and_eq_true_iff.mp hn).1,Reps.leave hk hm hl rs (Bool.and_eq_true_iff.mp hn).2,e2⟩
theorem nd_leave {g a u fp} (hl:C'.Lk=C.Lk) (n:Nd C' H g a u fp) (h:(g == .m || g == .f)=true):Nd C H g a u fp:=by
 cases g with
 | m=>exact n
 | l=>cases h
 | f=>obtain⟨⟨o,e⟩,x,q⟩:=n;exact⟨⟨o,e⟩,by rw[←hl];exact x,q⟩
 | k=>cases h
end
end
inductive FR where
 | ok (r:D) (outs:List D)
 | ex (x:Exn) (outs:List D)
 | err
def Yf:List Bool→Env→Option (List D)
 | [],_=>some []
 | true::bs,some d::env=>(Yf bs env).map (d::·)
 | false::bs,_::env=>Yf bs env
 | _,_=>none
def UZ (io:List Bool):O→FR
 | .nx env=>match Yf io env with
  | some os=>.ok .non os
  | none=>.err
 | .rt d env=>match Yf io env with
  | some os=>.ok d os
  | none=>.err
 | .ex x env=>match Yf io env with
  | some os=>.ex x os
  | none=>.err
 | _=>.err
def YF (n:Nat) (ds:List D):Env:=ds.map some++List.replicate (n - ds.length) none
def JO (n:Nat) (io:List Bool) (c:CS) (ds:List D):FR:=if ds.length=io.length∧io.length≤n then UZ io (c (YF n ds)) else .err
def ArgR (C:Ctx) (H:Hp):List Bool→List D→List V→FPs→Prop
 | [],ds,vs,fps=>ds=[]∧vs=[]∧fps=[]
 | b::bs,ds,vs,fps=>∃d ds' v vs' fp fps',ds=d::ds'∧vs=v::vs'∧fps=fp::fps'∧Rep C H d v fp∧(b=true∨fp=[])∧ArgR C H bs ds' vs' fps'
def OutR (C:Ctx) (H:Hp):List Bool→List D→List V→FPs→Prop
 | [],os,vs,fps=>os=[]∧fps=[]
 | true::bs,os,vs,fps=>∃o os' v vs' fp fps',os=o::os'∧vs=v::vs'∧fps=fp::fps'∧Rep C H o v fp∧OutR C H bs os' vs' fps'
 | false::bs,os,vs,fps=>∃v vs',vs=v::vs'∧OutR C H bs os vs' fps
def PostF (C:Ctx) (H:Hp) (io:List Bool) (vs:List V) (Q:VK) (E:XK):FR→Prop
 | .ok r os=>∀v H' fp fps,Fr C H'→Mono H H'→Rep C H' r v fp→OutR C H' io os vs fps→(fp++fps.flatten).Nodup→(∀a∈fp++fps.flatten,a∈C.A∨H a=none)→Q v H'
 | .ex x os=>∀cv dd H' fps,Fr C H'→Mono H H'→ExIs C x cv dd H'→OutR C H' io os vs fps→fps.flatten.Nodup→(∀a∈fps.flatten,a∈C.A∨H a=none)→E cv dd H'
 | .err=>False
def spF (K:PySem.W.Frag) (mg:Str→Option Value) (io:List Bool) (φ:List D→FR):Sp:=fun vs H Q E=>∃(Lk:List Addr) (ds:List D) (fps:FPs),
 vs.length=io.length∧ArgR ⟨K,mg,H,fps.flatten,Lk⟩ H io ds vs fps∧fps.flatten.Nodup∧(∀a∈Lk,∃ob u,H a=some (.frz ob u))∧PostF ⟨K,mg,H,fps.flatten,Lk⟩ H io vs Q E (φ ds)
theorem fr_entry {C:Ctx} {H:Hp} (h:C.H0=H):Fr C H:=fun a o e _=>.inl (by rw[←h];exact e)
theorem ArgR.len {C H}:∀{io ds vs fps},ArgR C H io ds vs fps→ds.length=io.length∧vs.length=io.length∧fps.length=io.length
 | [],ds,vs,fps,⟨h1,h2,h3⟩=>by subst h1 h2 h3;exact⟨rfl,rfl,rfl⟩
 | b::bs,ds,vs,fps,⟨d,ds',v,vs',fp,fps',h1,h2,h3,_,_,r⟩=>by
  subst h1 h2 h3
  obtain⟨a1,a2,a3⟩:=ArgR.len r
  exact⟨by simp[a1],by simp[a2],by simp[a3]⟩
theorem ArgR.get {C H}:∀{io ds vs fps} {i:Nat} {d:D},ArgR C H io ds vs fps→ds[i]?=some d→∃v,vs[i]?=some v∧Rep C H d v (fps.getD i [])
 | [],ds,vs,fps,i,d,⟨h1,h2,h3⟩,h=>by subst h1;simp at h
 | b::bs,ds,vs,fps,0,d,⟨d0,ds',v,vs',fp,fps',h1,h2,h3,r,_,_⟩,h=>by
  subst h1 h2 h3
  simp at h;subst h
  exact⟨v,by simp,by simpa using r⟩
 | b::bs,ds,vs,fps,i+1,d,⟨d0,ds',v,vs',fp,fps',h1,h2,h3,_,_,r⟩,h=>by
  subst h1 h2 h3
  obtain⟨v',h1,h2⟩:=ArgR.get (i:=i) r (by simpa using h)
  exact⟨v',by simpa using h1,by simpa using h2⟩
theorem ArgR.trk {C H}:∀{io ds vs fps},ArgR C H io ds vs fps→∀a∈fps.flatten,∃o,H a=some o∧Mutb o
 | [],ds,vs,fps,⟨h1,h2,h3⟩=>by subst h3;intro a ha;simp at ha
 | b::bs,ds,vs,fps,⟨d0,ds',v,vs',fp,fps',h1,h2,h3,r,_,rs⟩=>by
  subst h3
  intro a ha
  rw[List.flatten_cons]at ha
  exact(List.mem_append.mp ha).elim (r.trk a) (ArgR.trk rs a)
theorem Jdt (fps:FPs) (n:Nat):(fps++List.replicate n []).flatten=fps.flatten:=by
 rw[List.flatten_append]
 have:(List.replicate n ([]:List Addr)).flatten=[]:=by
  rw[List.flatten_eq_nil_iff];intro l hl;exact(List.mem_replicate.mp hl).2
 rw[this,List.append_nil]
theorem good_start {C:Ctx} {H:Hp} {N:List Str} {io ds vs fps} (h0:C.H0=H) (hA:C.A=fps.flatten) (r:ArgR C H io ds vs fps) (nd:fps.flatten.Nodup) (hl:io.length≤N.length) (hk:∀a∈C.Lk,∃ob u,H a=some (.frz ob u)) :
  Good C (fps++List.replicate (N.length - fps.length) []) (YF N.length ds) (L2.start N vs) H []:=by
 obtain⟨l1,l2,l3⟩:=r.len
 refine⟨?_,?_,fun i d e=>?_,?_,fun a ha=>?_,fun a ha=>?_,fr_entry h0,hk⟩
 ·simp[YF,L2.start];omega
 ·simp[L2.start];omega
 ·unfold YF at e
  have hi:i < ds.length:=by
   by_cases hi:i < ds.length
   ·exact hi
   ·rw[List.getElem?_append_right (by simp;omega)]at e
    rw[List.getElem?_replicate]at e
    split at e<;>simp at e
  rw[List.getElem?_append_left (by simpa using hi),List.getElem?_map]at e
  have e':ds[i]?=some d:=by
   cases q:ds[i]? with
   | none=>rw[q]at e;simp at e
   | some x=>rw[q]at e;simp at e;rw[e]
  obtain⟨v,h1,h2⟩:=r.get e'
  refine⟨v,?_,?_⟩
  ·unfold L2.start
   rw[List.getElem?_append_left (by simp;omega),List.getElem?_map,h1];rfl
  ·have:(fps++List.replicate (N.length - fps.length) []).getD i []=fps.getD i []:=by
    rw[List.getD_eq_getElem?_getD,List.getD_eq_getElem?_getD,List.getElem?_append_left (by omega)]
   rw[this];exact h2
 ·rw[Jdt,List.append_nil];exact nd
 ·rw[Jdt,List.append_nil]at ha;exact .inl (by rw[hA];exact ha)
 ·rw[Jdt,List.append_nil]at ha;exact r.trk a ha
def Yr:Nat→List Bool→List Nat
 | _,[]=>[]
 | n,true::bs=>n::Yr (n+1) bs
 | n,false::bs=>Yr (n+1) bs
theorem Jcq {C:Ctx} {H':Hp} {fs:FPs} {env:Env} {σ:L2.St} (hrep:∀i d,env[i]?=some (some d)→∃v,σ[i]?=some (some v)∧Rep C H' d v (fs.getD i [])):∀{n:Nat} {io:List Bool} {os:List D} {vs:List V},
  Yf io (env.drop n)=some os→vs.length=io.length→(∀j∈Yr n io,σ[j]?=(vs[j - n]?).map some)→OutR C H' io os vs ((Yr n io).map fun j=>fs.getD j [])
 | n,[],os,vs,h,hl,hv=>by simp[Yf]at h;exact⟨h.symm ▸ rfl,rfl⟩
 | n,true::bs,os,vs,h,hl,hv=>by
  cases vs with
  | nil=>simp at hl
  | cons v vs =>
   cases q:env.drop n with
   | nil=>rw[q]at h;simp[Yf]at h
   | cons od rest =>
    rw[q]at h
    cases od with
    | none=>simp[Yf]at h
    | some d =>
     have hd:env[n]?=some (some d):=by
      have:=congrArg List.head? q
      simpa [List.head?_drop] using this
     have hrest:rest=env.drop (n+1):=by
      have:=congrArg List.tail q
      simpa [List.tail_drop] using this.symm
     simp only[Yf]at h
     obtain⟨os',h1,rfl⟩:=Option.map_eq_some_iff.mp h
     rw[hrest]at h1
     obtain⟨w,e1,r⟩:=hrep n d hd
     have:=hv n (by simp[Yr])
     simp at this
     rw[this]at e1;cases e1
     refine⟨d,os',v,vs,_,_,rfl,rfl,rfl,r,Jcq hrep h1 (by simpa using hl) fun j hj=>?_⟩
     have hj1:n+1≤j:=by
      have key:∀(bs:List Bool) (m:Nat),∀j∈Yr m bs,m≤j:=by
       intro bs
       induction bs with
       | nil=>intro m j h;simp[Yr]at h
       | cons b bs ih =>
        intro m j h
        cases b with
        | true =>
         simp only[Yr,List.mem_cons]at h
         rcases h with h | h
         ·omega
         ·have:=ih _ _ h;omega
        | false=>simp only[Yr]at h;have:=ih _ _ h;omega
      exact key bs (n+1) j hj
     have:=hv j (by simp[Yr,hj])
     rw[this]
     have e:j - n=(j - (n+1))+1:=by omega
     rw[e];simp
 | n,false::bs,os,vs,h,hl,hv=>by
  cases vs with
  | nil=>simp at hl
  | cons v vs =>
   cases q:env.drop n with
   | nil=>rw[q]at h;simp[Yf]at h
   | cons od rest =>
    rw[q]at h
    have hrest:rest=env.drop (n+1):=by
     have:=congrArg List.tail q
     simpa [List.tail_drop] using this.symm
    simp only[Yf]at h
    rw[hrest]at h
    refine⟨v,vs,rfl,Jcq hrep h (by simpa using hl) fun j hj=>?_⟩
    have hj1:n+1≤j:=by
     have key:∀(bs:List Bool) (m:Nat),∀j∈Yr m bs,m≤j:=by
      intro bs
      induction bs with
      | nil=>intro m j h;simp[Yr]at h
      | cons b bs ih =>
       intro m j h
       cases b with
       | true =>
        simp only[Yr,List.mem_cons]at h
        rcases h with h | h
        ·omega
        ·have:=ih _ _ h;omega
       | false=>simp only[Yr]at h;have:=ih _ _ h;omega
     exact key bs (n+1) j hj
    have:=hv j (by simp[Yr,hj])
    rw[this]
    have e:j - n=(j - (n+1))+1:=by omega
    rw[e];simp
theorem JbR:∀(io:List Bool) (n:Nat),∀j∈Yr n io,n≤j∧j < n+io.length
 | [],n=>by intro j h;simp[Yr]at h
 | true::bs,n=>by
  intro j h
  simp only[Yr,List.mem_cons]at h
  rcases h with h | h
  ·simp;omega
  ·have:=JbR bs _ _ h;simp;omega
 | false::bs,n=>by
  intro j h
  simp only[Yr]at h
  have:=JbR bs _ _ h;simp;omega
theorem JaH:∀(io:List Bool) (n:Nat) (fs:FPs),(((Yr n io).map fun j=>fs.getD j []).flatten).Sublist ((fs.drop n).flatten)
 | [],n,fs=>by simp[Yr]
 | true::bs,n,fs=>by
  simp only[Yr,List.map_cons,List.flatten_cons]
  cases q:fs.drop n with
  | nil =>
   have hn:fs.length≤n:=by simpa using q
   have:fs.getD n []=[]:=by rw[List.getD_eq_getElem?_getD,List.getElem?_eq_none hn];rfl
   rw[this,List.nil_append]
   have:=JaH bs (n+1) fs
   rw[List.drop_eq_nil_of_le (by omega)]at this
   exact this
  | cons f r =>
   have e1:fs.getD n []=f:=by
    have:=congrArg List.head? q
    rw[List.head?_drop]at this
    rw[List.getD_eq_getElem?_getD,this];rfl
   have e2:fs.drop (n+1)=r:=by
    have:=congrArg List.tail q
    simpa [List.tail_drop] using this
   rw[e1,List.flatten_cons]
   have:=JaH bs (n+1) fs
   rw[e2]at this
   exact(List.Sublist.refl f).append this
 | false::bs,n,fs=>by
  simp only[Yr]
  refine (JaH bs (n+1) fs).trans ?_
  cases q:fs.drop n with
  | nil =>
   have hn:fs.length≤n:=by simpa using q
   rw[List.drop_eq_nil_of_le (by omega)];simp
  | cons f r =>
   have e2:fs.drop (n+1)=r:=by
    have:=congrArg List.tail q
    simpa [List.tail_drop] using this
   rw[e2,List.flatten_cons]
   exact List.sublist_append_right _ _
theorem Jg2 {X:Cx} {K:PySem.W.Frag} {mg:Str→Option Value} {scope:Scope} {sts:List Stmt} {N ps:List Str} {io:List Bool} {c:CS} {M Vs:List Nat} {vs:List V} {H:Hp} {Q:VK} {E:XK} (hK:K=X.K) (hmg:mg=X.mg)
  (S:FnScope N ps scope) (hio:io.length=ps.length) (hv:djB (Yr 0 io) Vs=true) (hb:SSs X (fun cls d _ H=>E cls d H) M Vs sts c) (h:spF K mg io (JO N.length io c) vs H Q E) :
  ∃t,PSs X sts t∧t { nx:=fun _ H'=>Q .non H',rt:=Q } (L2.start N vs) H:=by
 obtain⟨Lk,ds,fps,hl,hA,nd,hk,po⟩:=h
 obtain⟨t,p,q⟩:=hb.go
 refine⟨t,p,?_⟩
 obtain⟨l1,l2,l3⟩:=hA.len
 have hN:io.length≤N.length:=by
  have:=congrArg List.length S.pre
  rw[List.length_take]at this
  omega
 have G:=good_start (C:=⟨K,mg,H,fps.flatten,Lk⟩) (N:=N) rfl rfl hA nd hN hk
 unfold JO at po
 rw[if_pos ⟨l1,hN⟩]at po
 have vals:∀{σ':L2.St},(∀i,i∉Vs→σ'[i]?=(L2.start N vs)[i]?)→∀j∈Yr 0 io,σ'[j]?=(vs[j - 0]?).map some:=fun {σ'} h j hj=>by
  rw[h j (Jaf hv j hj),Nat.sub_zero]
  have:=JbR io 0 j hj
  unfold L2.start
  rw[List.getElem?_append_left (by simp;omega),List.getElem?_map]
 have own:∀{fs' env' σ' H' fp},Good ⟨K,mg,H,fps.flatten,Lk⟩ fs' env' σ' H' (fp++[])→(fp++((Yr 0 io).map fun j=>fs'.getD j []).flatten).Nodup∧∀a∈fp++((Yr 0 io).map fun j=>fs'.getD j []).flatten,a∈fps.flatten∨H a=none:=fun {fs' env' σ' H' fp} G'=>by
  have sub:=JaH io 0 fs'
  rw[List.drop_zero]at sub
  have p1:(fp++fs'.flatten).Perm (fs'.flatten++(fp++[])):=by rw[List.append_nil];exact List.perm_append_comm
  have s2:=(List.Sublist.refl fp).append sub
  exact⟨(p1.nodup_iff.mpr G'.nd).sublist s2,fun a ha=>G'.own a (p1.mem_iff.mp (s2.subset ha))⟩
 refine q ⟨K,mg,H,fps.flatten,Lk⟩ _ (YF N.length ds) (L2.start N vs) H [] _ ⟨hK,hmg⟩ G ?_
 cases eo:c (YF N.length ds) with
 | nx env' =>
  rw[eo]at po
  intro fs' σ' H' G' s'
  simp only[UZ]at po
  cases e2:Yf io env' with
  | none=>rw[e2]at po;exact po.elim
  | some os =>
   rw[e2]at po
   obtain⟨o1,o2⟩:=own (fp:=[]) (by simpa using G')
   exact po .non H' [] _ G'.fr s'.s.m ⟨rfl,rfl⟩ (Jcq (n:=0) G'.rep (by rw[List.drop_zero];exact e2) hl (vals s'.v)) o1 o2
 | rt d env' =>
  rw[eo]at po
  intro v fs' σ' H' fp G' s' r
  simp only[UZ]at po
  cases e2:Yf io env' with
  | none=>rw[e2]at po;exact po.elim
  | some os =>
   rw[e2]at po
   obtain⟨o1,o2⟩:=own G'
   exact po v H' fp _ G'.fr s'.s.m r (Jcq (n:=0) G'.rep (by rw[List.drop_zero];exact e2) hl (vals s'.v)) o1 o2
 | ex x env' =>
  rw[eo]at po
  intro cv dd fs' σ' H' G' s' hx
  simp only[UZ]at po
  cases e2:Yf io env' with
  | none=>rw[e2]at po;exact po.elim
  | some os =>
   rw[e2]at po
   obtain⟨o1,o2⟩:=own (fp:=[]) (by simpa using G')
   exact po cv dd H' _ G'.fr s'.s.m hx (Jcq (n:=0) G'.rep (by rw[List.drop_zero];exact e2) hl (vals s'.v)) (by simpa using o1) (by simpa using o2)
 | bk env'=>rw[eo]at po;exact po.elim
 | ct env'=>rw[eo]at po;exact po.elim
 | err=>rw[eo]at po;exact po.elim
theorem fn_ok {P:Program} {w:World} {K:PySem.W.Frag} {mg:Str→Option Value} {base:Heap} {x qual:Str} {st:Stmt} {f:Addr} {fd:FuncData} {N ps:List Str} {k:Nat} {io:List Bool} {c:CS} {M Vs:List Nat}
  (F:Fun K x qual st f fd) (S:FnScope N ps (defScope st)) (hio:io.length=ps.length) (hv:djB (Yr 0 io) Vs=true)
  (hb:∀(cdv:Value) (A:Around) (outer:List PySem.Env) (s:Shared) (H:Hp) (E:XK),Room k (A.deeper (envOfC qual (defScope st) s.heap.objs.size f cdv)) →
   SSs (cxOf (L2.CX P w) P w K mg base N qual (defScope st) f cdv A outer s H E) (fun cls d _ H=>E cls d H) M Vs (defBody st) c) :
  FnOk P w K mg base (L2.CX P w) (k+1) f fd ps (spF K mg io (JO N.length io c)):=by
 refine F.okX S (fun vs H Q E h=>by obtain⟨Lk,ds,fps,hl,_⟩:=h;rw[hl,hio]) fun cdv A outer s H vs Q E hr h=>?_
 exact Jg2 rfl rfl S hio hv (hb cdv A outer s H E hr) h
end VS
namespace VS
open PySem L2 SeqAt
inductive AV where
 | ro (d:D)
 | ow (d:D) (wb:Option Nat)
def AV.d:AV→D
 | .ro d=>d.lend
 | .ow d _=>d
def AV.io:AV→Bool
 | .ro _=>false
 | .ow _ _=>true
def wbOk (σ:St) (Ms:List Nat) (v:V):Option Nat→Prop
 | none=>True
 | some i=>σ[i]?=some (some v)∧i∈Ms
def AOk (C:Ctx) (H:Hp) (σ:St) (Ms Rs:List Nat) (fs:FPs) (ownr:List Addr):List AV→List V→FPs→Prop
 | [],vs,fps=>vs=[]∧fps=[]
 | .ro d::as,vs,fps=>∃v vs' fp fps',vs=v::vs'∧fps=[]::fps'∧Rep C H d v fp∧In Rs ownr fs fp∧AOk C H σ Ms Rs fs ownr as vs' fps'
 | .ow d wb::as,vs,fps=>∃v vs' fp fps',vs=v::vs'∧fps=fp::fps'∧Rep C H d v fp∧wbOk σ Ms v wb∧AOk C H σ Ms Rs fs ownr as vs' fps'
def JfL (W:WX) (C:Ctx) (M Rs:List Nat) (tf:List Addr) (fs:FPs) (env:Env) (σ:St) (H:Hp) (Q:List V→Hp→Prop):R (List AV)→Prop
 | .ok avs env'=>∀vs fs' H' fps ownr,Good C fs' env' σ H' (fps.flatten++(ownr++tf))→Step M tf fs env H fs' env' H'→AOk C H' σ M Rs fs' ownr avs vs fps→Q vs H'
 | .ex x env'=>∀cv dd fs' H',Good C fs' env' σ H' tf→Step M tf fs env H fs' env' H'→ExIs C x cv dd H'→W cv dd σ H'
 | .err=>False
structure SR (X:Cx) (W:WX) (M Rs:List Nat) (es:List Expr) (c:Env→R (List AV)):Prop where
 go:∃t,PA X es t∧∀C fs env σ H tf Q,C.At X→Good C fs env σ H tf→JfL W C M Rs tf fs env σ H Q (c env)→t σ H Q
section
variable {X:Cx} {W:WX} {M M1 M2 M3 V1 V2 V3 Rs R1 R2 R3:List Nat} {e a b c tg:Expr} {es:List Expr} {ca cb cc:CE} {pos p:Pos} {cr:Env→R (List AV)}
variable {pins:List (Addr × Obj)} {σ:St} {H H1 H2:Hp} {s:Shared} {C C':Ctx} {fs fs1 fs2:FPs} {env env1 env2:Env} {tf tf' own:List Addr}
theorem Good.perm (G:Good C fs env σ H tf) (h:tf'.Perm tf):Good C fs env σ H tf':=by
 have p:=h.append_left fs.flatten
 exact⟨G.le,G.lf,G.rep,p.nodup_iff.mpr G.nd,fun a ha=>G.own a (p.mem_iff.mp ha),fun a ha=>G.trk a (p.mem_iff.mp ha),G.fr,G.lk⟩
theorem wbOk.mono {v} {M1 M2:List Nat} (h:∀i∈M1,i∈M2):∀{wb},wbOk σ M1 v wb→wbOk σ M2 v wb
 | none,_=>trivial
 | some i,⟨a,b⟩=>⟨a,h i b⟩
theorem AOk.mono {ownr ownr'} (h:∀i∈M1,i∈M2) (hr:∀i∈R1,i∈R2) (ho:∀a∈ownr,a∈ownr'):∀{avs vs fps},AOk C H σ M1 R1 fs ownr avs vs fps→AOk C H σ M2 R2 fs ownr' avs vs fps
 | [],vs,fps,x=>x
 | .ro d::as,vs,fps,⟨v,vs',fp,fps',e1,e2,r,i,x⟩=>⟨v,vs',fp,fps',e1,e2,r,i.mono hr ho,AOk.mono h hr ho x⟩
 | .ow d wb::as,vs,fps,⟨v,vs',fp,fps',e1,e2,r,i,x⟩=>⟨v,vs',fp,fps',e1,e2,r,i.mono h,AOk.mono h hr ho x⟩
def aNil:Env→R (List AV):=fun env=>.ok [] env
theorem sr_nil:SR X W [] [] [] aNil:=by
 refine⟨tNil,pa_nil,fun C fs env σ H tf Q hC G po=>?_⟩
 exact po [] fs H [] [] (by simpa using G) .refl ⟨rfl,rfl⟩
def aRo (ca:CE) (cr:Env→R (List AV)):Env→R (List AV):=fun env=>(ca env).bind fun d env=>(cr env).bind fun as env=>.ok (.ro d::as) env
def aOw (ca:CE) (wb:Option Nat) (cr:Env→R (List AV)):Env→R (List AV):=fun env=>(ca env).bind fun d env=>(cr env).bind fun as env=>.ok (.ow d wb::as) env
theorem sr_ro (ha:SB X W M1 R1 a ca) (hr:SR X W M2 R2 es cr) (hd:djB R1 M2=true:=by decide) (hs:starEach (a::es) X.env=(false,eval a X.env)::starEach es X.env:=by rfl):SR X W (M1++M2) (R1++R2) (a::es) (aRo ca cr):=by
 obtain⟨t,p,q⟩:=ha.go
 obtain⟨t2,p2,q2⟩:=hr.go
 refine⟨tCons t t2,pa_cons p p2 hs,fun C fs env σ H tf Q hC G po=>?_⟩
 refine q C fs env σ H tf _ hC G ?_
 unfold aRo at po
 cases e1:ca env with
 | err=>rw[e1]at po;exact po
 | ex x env'=>rw[e1]at po;exact fun cv dd fs' H' G' s=>po cv dd fs' H' G' (s.weak ZG fun _ z=>z)
 | ok d env1 =>
  rw[e1]at po
  intro v fs1 H1 fp1 own1 G1 s1 r1 i1
  refine q2 C fs1 env1 σ H1 (own1++tf) _ hC G1 ?_
  have po':JfL W C (M1++M2) (R1++R2) tf fs env σ H Q ((cr env1).bind fun as env=>.ok (.ro d::as) env):=po
  cases e2:cr env1 with
  | err=>rw[e2]at po';exact po'
  | ex x env'=>rw[e2]at po';exact fun cv dd fs' H' G' s=>po' cv dd fs' H' G'.drop (s1.trans (s.weak (fun _ z=>z) fun x hx=>List.mem_append_right _ hx))
  | ok as env2 =>
   rw[e2]at po'
   intro vs fs2 H2 fps ownr G2 s2 r2
   have po2:∀vs fs' H' fps ownr,Good C fs' env2 σ H' (fps.flatten++(ownr++tf))→Step (M1++M2) tf fs env H fs' env2 H'→AOk C H' σ (M1++M2) (R1++R2) fs' ownr (.ro d::as) vs fps→Q vs H':=po'
   refine po2 (v::vs) fs2 H2 ([]::fps) (ownr++own1) (by simpa using G2) (s1.trans (s2.weak (fun _ z=>z) fun x hx=>List.mem_append_right _ hx)) ?_
   exact⟨v,vs,fp1,fps,rfl,rfl,r1.keep (i1.keep s2 (Jaf hd)) s2.m,(i1.step (own2:=ownr) s2 (Jaf hd)).mono ZG fun _ z=>z,r2.mono Jed Jed fun _ z=>List.mem_append_left _ z⟩
theorem Jiy {t:TE} {t2:TA} {wb:Option Nat} (hs:starEach (a::es) X.env=(false,eval a X.env)::starEach es X.env) (p:PE X a t) (p2:PA X es t2)
  (q:∀C fs env σ H tf Q,C.At X→Good C fs env σ H tf→(match ca env with
   | .ok d env'=>∀v fs' H' fp,Good C fs' env' σ H' (fp++tf)→Step M1 tf fs env H fs' env' H'→Rep C H' d v fp→wbOk σ M1 v wb→Q v H'
   | .ex x env'=>∀cv dd fs' H',Good C fs' env' σ H' tf→Step M1 tf fs env H fs' env' H'→ExIs C x cv dd H'→W cv dd σ H'
   | .err=>False)→t σ H Q)
  (q2:∀C fs env σ H tf Q,C.At X→Good C fs env σ H tf→JfL W C M2 R2 tf fs env σ H Q (cr env)→t2 σ H Q):SR X W (M1++M2) R2 (a::es) (aOw ca wb cr):=by
 refine⟨tCons t t2,pa_cons p p2 hs,fun C fs env σ H tf Q hC G po=>?_⟩
 refine q C fs env σ H tf _ hC G ?_
 unfold aOw at po
 cases e1:ca env with
 | err=>rw[e1]at po;exact po
 | ex x env'=>rw[e1]at po;exact fun cv dd fs' H' G' s=>po cv dd fs' H' G' (s.weak ZG fun _ z=>z)
 | ok d env1 =>
  rw[e1]at po
  intro v fs1 H1 fp1 G1 s1 r1 w1
  refine q2 C fs1 env1 σ H1 (fp1++tf) _ hC G1 ?_
  have po':JfL W C (M1++M2) R2 tf fs env σ H Q ((cr env1).bind fun as env=>.ok (.ow d wb::as) env):=po
  cases e2:cr env1 with
  | err=>rw[e2]at po';exact po'
  | ex x env'=>rw[e2]at po';exact fun cv dd fs' H' G' s=>po' cv dd fs' H' G'.drop (s1.trans (s.weak (fun _ z=>z) fun x hx=>List.mem_append_right _ hx))
  | ok as env2 =>
   rw[e2]at po'
   intro vs fs2 H2 fps ownr G2 s2 r2
   have po2:∀vs fs' H' fps ownr,Good C fs' env2 σ H' (fps.flatten++(ownr++tf))→Step (M1++M2) tf fs env H fs' env2 H'→AOk C H' σ (M1++M2) R2 fs' ownr (.ow d wb::as) vs fps→Q vs H':=po'
   refine po2 (v::vs) fs2 H2 (fp1::fps) ownr (G2.perm ?_) (s1.trans (s2.weak (fun _ z=>z) fun x hx=>List.mem_append_right _ hx)) ?_
   ·rw[List.flatten_cons]
    have:(fps.flatten++(ownr++(fp1++tf))).Perm (fp1++(fps.flatten++(ownr++tf))):=by
     exact((List.perm_append_comm_assoc _ _ _).append_left _).trans (List.perm_append_comm_assoc _ _ _)
    rw[List.append_assoc];exact this.symm
   ·exact⟨v,vs,fp1,fps,rfl,rfl,r1.keep (fun x hx=>s2.t x (List.mem_append_left _ hx)) s2.m,w1.mono ZG,r2.mono Jed (fun _ z=>z) fun _ z=>z⟩
theorem sr_ow (ha:SO X W M1 a ca) (hr:SR X W M2 R2 es cr) (hs:starEach (a::es) X.env=(false,eval a X.env)::starEach es X.env:=by rfl):SR X W (M1++M2) R2 (a::es) (aOw ca none cr):=by
 obtain⟨t,p,q⟩:=ha.go
 obtain⟨t2,p2,q2⟩:=hr.go
 refine Jiy hs p p2 (fun C fs env σ H tf Q hC G po=>q C fs env σ H tf Q hC G ?_) q2
 cases e1:ca env with
 | err=>rw[e1]at po;exact po
 | ex x env'=>rw[e1]at po;exact po
 | ok d env1=>rw[e1]at po;exact fun v fs' H' fp G' s r=>po v fs' H' fp G' s r trivial
theorem sr_io (i:Nat) {x:Str} (hr:SR X W M2 R2 es cr) (hN:X.N[i]?=some x:=by rfl) (hv:Vis X.env.scope x:=by first | exact Or.inl rfl | exact Or.inr (Or.inl rfl) | exact Or.inr (Or.inr rfl)) (hd:(x == ("__debug__" : Str))=false:=by decide)
  (hcd:(x == ("__classdict__" : Str))=false:=by decide) (hs:starEach (.Name x pos::es) X.env=(false,eval (.Name x pos) X.env)::starEach es X.env:=by rfl):SR X W ([i]++M2) R2 (.Name x pos::es) (aOw (cMv i) (some i) cr):=by
 obtain⟨t2,p2,q2⟩:=hr.go
 refine Jiy hs (pe_var hN hv hd hcd) p2 (fun C fs env σ H tf Q hC G po=>?_) q2
 cases e1:cMv i env with
 | err=>rw[e1]at po;exact po.elim
 | ex x env'=>unfold cMv at e1;split at e1<;>cases e1
 | ok d env1 =>
  rw[e1]at po
  unfold cMv at e1
  split at e1
  ·rename_i d' e2
   cases e1
   obtain⟨v,e3,r⟩:=G.rep i d e2
   refine⟨v,e3,po v (fs.set i []) H _ (G.mv e2) ⟨fun _ _=>rfl,fun j hj=>?_,fun j hj=>?_,fun _ _ _ _=>rfl,.refl H⟩ r ⟨e3,by simp⟩⟩
   ·rw[Zl fs i j [] (G.lt e2),if_neg (by simpa using hj)]
   ·rw[List.getElem?_set,if_neg (by intro z;subst z;simp at hj)]
  ·cases e1
def Um:List AV→List D→Env→Option Env
 | [],[],env=>some env
 | .ro _::as,os,env=>Um as os env
 | .ow _ (some i)::as,o::os,env=>Um as os (env.set i (some o))
 | .ow _ none::as,_::os,env=>Um as os env
 | _,_,_=>none
theorem Jco {Ms Rs:List Nat} {ownr:List Addr} {fsA:FPs} {HA:Hp} (hk:C'.K=C.K) (hm:C'.mg=C.mg) (hl:C'.Lk=C.Lk):∀{avs:List AV} {vs:List V} {fpsA:FPs} {os:List D} {fps:FPs} {fs:FPs} {env env':Env},
  AOk C HA σ Ms Rs fsA ownr avs vs fpsA→OutR C' H (avs.map AV.io) os vs fps→nols os=true→Um avs os env=some env'→Good C fs env σ H (fps.flatten++tf)→∃fs',Good C fs' env' σ H tf∧Step Ms tf fs env H fs' env' H
 | [],vs,fpsA,os,fps,fs,env,env',_,⟨h1,h2⟩,_,hp,G=>by
  subst h1 h2
  simp[Um]at hp;subst hp
  exact⟨fs,by simpa using G,.refl⟩
 | .ro d::as,vs,fpsA,os,fps,fs,env,env',⟨v,vs',fp,fps',e1,e2,r,i,x⟩,ho,hn,hp,G=>by
  subst e1
  obtain⟨w,ws,e3,ho⟩:=ho
  cases e3
  simp only[Um]at hp
  exact Jco hk hm hl x ho hn hp G
 | .ow d none::as,vs,fpsA,os,fps,fs,env,env',⟨v,vs',fp,fps',e1,e2,r,i,x⟩,ho,hn,hp,G=>by
  subst e1
  obtain⟨o,os',w,ws,f,fps2,e3,e4,e5,ro,ho⟩:=ho
  cases e4
  subst e3 e5
  simp only[Um]at hp
  have hn:=Bool.and_eq_true_iff.mp hn
  refine Jco hk hm hl x ho hn.2 hp (G.sub ?_)
  rw[List.flatten_cons,List.append_assoc];exact List.sublist_append_right _ _
 | .ow d (some j)::as,vs,fpsA,os,fps,fs,env,env',⟨v,vs',fp,fps',e1,e2,r,i,x⟩,ho,hn,hp,G=>by
  subst e1
  obtain⟨o,os',w,ws,f,fps2,e3,e4,e5,ro,ho⟩:=ho
  cases e4
  subst e3 e5
  simp only[Um]at hp
  have hn:=Bool.and_eq_true_iff.mp hn
  rw[List.flatten_cons,List.append_assoc]at G
  have ro':=ro.leave hk hm hl hn.1
  have G2:=G.put (i:=j) ro'
  have es:σ.set j (some v)=σ:=by
   obtain⟨h1,h2⟩:=List.getElem?_eq_some_iff.mp i.1
   conv=>rhs;rw[←List.set_getElem_self (as:=σ) (i:=j) h1]
   rw[h2]
  rw[es]at G2
  obtain⟨fs',G3,s3⟩:=Jco hk hm hl x ho hn.2 hp G2
  have s2:=Step.put (i:=j) (d:=o) G
  refine⟨fs',G3,((s2.weak (M':=Ms) (tf':=tf) (fun q hq=>?_) fun x hx=>List.mem_append_right _ hx).trans s3).weak (fun q hq=>(List.mem_append.mp hq).elim id id) fun _ z=>z⟩
  simp at hq;subst hq;exact i.2
theorem good_after {A':List Addr} (G:Good C fs env σ H1 (A'++tf)) (h0:C'.H0=H1) (hA:C'.A=A') (hl:C'.Lk=C.Lk) (f:Fr C' H2) (m:Mono H1 H2):Good C fs env σ H2 tf∧(∀a∈fs.flatten++tf,H2 a=H1 a):=by
 have keep:∀a∈fs.flatten++tf,H2 a=H1 a:=fun a ha=>by
  have ha':a∈fs.flatten++(A'++tf):=by
   rcases List.mem_append.mp ha with z | z
   ·exact List.mem_append_left _ z
   ·exact List.mem_append_right _ (List.mem_append_right _ z)
  obtain⟨o,e,mu⟩:=G.trk a ha'
  have nA:a∉A':=fun hm=>by
   have p:(fs.flatten++(A'++tf)).Perm (A'++(fs.flatten++tf)):=by
    rw[←List.append_assoc,←List.append_assoc];exact List.perm_append_comm.append_right _
   exact(List.nodup_append.mp (p.nodup_iff.mp G.nd)).2.2 a hm a ha rfl
  rcases f a o (by rw[h0];exact e) (by rw[hA];exact nA) with q | ⟨q1,_,ob,q⟩
  ·rw[q,e]
  ·obtain⟨ob2,u,z⟩:=G.lk a (by rw[←hl];exact q1)
   rw[e]at z;cases z;exact mu.elim
 refine⟨⟨G.le,G.lf,fun i d e=>?_,?_,fun a ha=>G.own a ?_,fun a ha=>?_,fun a o e na=>?_,fun a ha=>?_⟩,keep⟩
 ·obtain⟨v,e1,r⟩:=G.rep i d e
  exact⟨v,e1,r.keep (fun a ha=>keep a (List.mem_append_left _ (QQ ha))) m⟩
 ·exact G.nd.sublist ((List.Sublist.refl _).append (List.sublist_append_right _ _))
 ·rcases List.mem_append.mp ha with z | z
  ·exact List.mem_append_left _ z
  ·exact List.mem_append_right _ (List.mem_append_right _ z)
 ·rw[keep a ha]
  refine G.trk a ?_
  rcases List.mem_append.mp ha with z | z
  ·exact List.mem_append_left _ z
  ·exact List.mem_append_right _ (List.mem_append_right _ z)
 ·have nA:a∉A':=fun hm=>by
   rcases G.own a (List.mem_append_right _ (List.mem_append_left _ hm)) with q | q
   ·exact na q
   ·rw[e]at q;cases q
  rcases G.fr a o e na with q | ⟨q1,q2,ob,q⟩
  ·rcases f a o (by rw[h0];exact q) (by rw[hA];exact nA) with z | ⟨z1,z2,z3⟩
   ·exact .inl z
   ·exact .inr ⟨by rw[←hl];exact z1,z2,z3⟩
  ·exact .inr ⟨q1,q2,ob,m.z _ _ _ q⟩
 ·obtain⟨ob,u,e⟩:=G.lk a ha
  exact⟨ob,u,m.z _ _ _ e⟩
theorem good_come {A' fpn:List Addr} (G1:Good C fs env σ H1 (A'++tf)) (G:Good C fs env σ H2 tf) (nd:fpn.Nodup) (hw:∀a∈fpn,a∈A'∨H1 a=none) (tk:∀a∈fpn,∃o,H2 a=some o∧Mutb o):Good C fs env σ H2 (fpn++tf):=by
 have p:(fs.flatten++(fpn++tf)).Perm (fpn++(fs.flatten++tf)):=by
  rw[←List.append_assoc,←List.append_assoc];exact List.perm_append_comm.append_right _
 have p1:(fs.flatten++(A'++tf)).Perm (A'++(fs.flatten++tf)):=by
  rw[←List.append_assoc,←List.append_assoc];exact List.perm_append_comm.append_right _
 refine⟨G.le,G.lf,G.rep,p.nodup_iff.mpr (List.nodup_append.mpr ⟨nd,G.nd,fun a ha b hb e=>?_⟩),fun a ha=>?_,fun a ha=>?_,G.fr,G.lk⟩
 ·subst e
  rcases hw a ha with z | z
  ·exact(List.nodup_append.mp (p1.nodup_iff.mp G1.nd)).2.2 a z a hb rfl
  ·have hb':a∈fs.flatten++(A'++tf):=p1.mem_iff.mpr (List.mem_append_right _ hb)
   obtain⟨o,q,_⟩:=G1.trk a hb'
   rw[z]at q;cases q
 ·rcases List.mem_append.mp (p.mem_iff.mp ha) with z | z
  ·rcases hw a z with w | w
   ·exact G1.own a (p1.mem_iff.mpr (List.mem_append_left _ w))
   ·exact G1.fr.fresh w
  ·exact G.own a z
 ·rcases List.mem_append.mp (p.mem_iff.mp ha) with z | z
  ·exact tk a z
  ·exact G.trk a z
theorem AOk.len {Ms Rs ownr}:∀{avs vs fps},AOk C H σ Ms Rs fs ownr avs vs fps→vs.length=(avs.map AV.io).length
 | [],vs,fps,⟨h,_⟩=>by subst h;rfl
 | .ro d::as,vs,fps,⟨v,vs',fp,fps',e1,e2,r,i,x⟩=>by subst e1;simp[AOk.len x]
 | .ow d wb::as,vs,fps,⟨v,vs',fp,fps',e1,e2,r,i,x⟩=>by subst e1;simp[AOk.len x]
theorem AOk.argR {Ms Rs ownr} (E:Enter C C' H) (hd:∀b,(b∈ownr∨∃r∈Rs,b∈fs.getD r [])→b∉C'.A):∀{avs vs fps},AOk C H σ Ms Rs fs ownr avs vs fps→ArgR C' H (avs.map AV.io) (avs.map AV.d) vs fps
 | [],vs,fps,⟨h1,h2⟩=>⟨rfl,h1,h2⟩
 | .ro d::as,vs,fps,⟨v,vs',fp,fps',e1,e2,r,i,x⟩=>⟨d.lend,_,v,vs',[],fps',rfl,e1,e2,r.lend E (fun b hb=>hd b (i b hb)),.inr rfl,AOk.argR E hd x⟩
 | .ow d wb::as,vs,fps,⟨v,vs',fp,fps',e1,e2,r,i,x⟩=>⟨d,_,v,vs',fp,fps',rfl,e1,e2,r.enter E,.inl rfl,AOk.argR E hd x⟩
theorem OutR.trk:∀{io os vs fps},OutR C H io os vs fps→∀a∈fps.flatten,∃o,H a=some o∧Mutb o
 | [],os,vs,fps,⟨_,h⟩=>by subst h;intro a ha;simp at ha
 | true::bs,os,vs,fps,⟨o,os',v,vs',fp,fps',e1,e2,e3,r,x⟩=>by
  subst e3
  intro a ha
  rw[List.flatten_cons]at ha
  exact(List.mem_append.mp ha).elim (r.trk a) (OutR.trk x a)
 | false::bs,os,vs,fps,⟨v,vs',e,x⟩=>OutR.trk x
def Ja1 (avs:List AV) (env:Env):FR→R D
 | .ok r os=>if r.nol && nols os then (match Um avs os env with
  | some env'=>.ok r env'
  | none=>.err) else .err
 | .ex x os=>if nols os then (match Um avs os env with
  | some env'=>.ex x env'
  | none=>.err) else .err
 | .err=>.err
def Jo (φ:List D→FR) (cr:Env→R (List AV)):CE:=fun env=>(cr env).bind fun avs env=>Ja1 avs env (φ (avs.map AV.d))
theorem ExIs.leave {x:Exn} {cv dd} (hk:C'.K=C.K) (hm:C'.mg=C.mg) (hl:C'.Lk=C.Lk) (h:ExIs C' x cv dd H):ExIs C x cv dd H:=by
 obtain⟨Ca,h1,h2,h3⟩:=h
 refine⟨Ca,by rw[←hm];exact h1,h2,?_⟩
 cases q:x.pay with
 | none=>rw[q]at h3;exact h3
 | some fd =>
  rw[q]at h3
  obtain⟨da,v,e1,e2,e3,r⟩:=h3
  exact⟨da,v,e1,e2,e3,r.leave hk hm hl e3⟩
theorem Jgw {io:List Bool} {φ:List D→FR} {t:TA} {E:L2.St→XK}
  (hE:∀σ cls d H,W cls d σ H→E σ cls d H) (hio:∀env avs env',cr env=.ok avs env'→avs.map AV.io=io)
  (q:∀C fs env σ H tf Q,C.At X→Good C fs env σ H tf→JfL W C M Rs tf fs env σ H Q (cr env)→t σ H Q) (hd:djB Rs []=true) :
  ∀C fs env σ H tf Q,C.At X→Good C fs env σ H tf→Ut W C M tf fs env σ H Q (Jo φ cr env)→t σ H fun vs H1=>spF X.K X.mg io φ vs H1 Q (E σ):=by
 intro C fs env σ H tf Q hC G po
 refine q C fs env σ H tf _ hC G ?_
 unfold Jo at po
 cases e1:cr env with
 | err=>rw[e1]at po;exact po
 | ex x env'=>rw[e1]at po;exact po
 | ok avs env1 =>
  rw[e1]at po
  intro vs fs1 H1 fps ownr G1 s1 ao
  have hio':=hio env avs env1 e1
  have po1:Ut W C M tf fs env σ H Q (Ja1 avs env1 (φ (avs.map AV.d))):=po
  let C':Ctx:=⟨X.K,X.mg,H1,fps.flatten,C.Lk⟩
  have hk:C'.K=C.K:=hC.1.symm
  have hm:C'.mg=C.mg:=hC.2.symm
  have E1:Enter C C' H1:=⟨hk,hm,rfl,rfl,G1.fr,fun x hx=>⟨G1.own x (List.mem_append_right _ (List.mem_append_left _ hx)),G1.trk x (List.mem_append_right _ (List.mem_append_left _ hx))⟩⟩
  have dis:∀b,(b∈ownr∨∃r∈Rs,b∈fs1.getD r [])→b∉C'.A:=fun b hb hm'=>by
   have nd:=(List.nodup_append.mp G1.nd).2.1
   rcases hb with z | ⟨r,_,z⟩
   ·exact(List.nodup_append.mp nd).2.2 b hm' b (List.mem_append_left _ z) rfl
   ·exact G1.apartT z (List.mem_append_left _ hm')
  have ar:=ao.argR E1 dis
  rw[hio']at ar
  refine⟨C.Lk,avs.map AV.d,fps,by rw[ao.len,hio'],ar,(List.nodup_append.mp (List.nodup_append.mp G1.nd).2.1).1,G1.lk,?_⟩
  have fin:∀{H2:Hp} {os:List D} {fpr:List Addr} {fpso:FPs} {env2:Env},Fr C' H2→Mono H1 H2→OutR C' H2 io os vs fpso→nols os=true→Um avs os env1=some env2→(fpr++fpso.flatten).Nodup→(∀a∈fpr++fpso.flatten,a∈C'.A∨H1 a=none) →
    (∀a∈fpr,∃o,H2 a=some o∧Mutb o)→∃fs2,Good C fs2 env2 σ H2 (fpr++tf)∧Step M tf fs env H fs2 env2 H2:=by
   intro H2 os fpr fpso env2 f m orr hn hp nd hw tk
   obtain⟨G2,keep⟩:=good_after (C':=C') G1 rfl rfl rfl f m
   have G2':Good C fs1 env1 σ H2 tf:=G2.drop
   have G3:Good C fs1 env1 σ H2 ((fpr++fpso.flatten)++(ownr++tf)):=good_come (A':=fps.flatten) G1 G2 nd hw fun a ha=>(List.mem_append.mp ha).elim (tk a) (orr.trk a)
   have G4:Good C fs1 env1 σ H2 (fpso.flatten++(fpr++tf)):=by
    refine (G3.sub (tf':=(fpr++fpso.flatten)++tf) ((List.Sublist.refl _).append (List.sublist_append_right _ _))).perm ?_
    rw[←List.append_assoc];exact List.perm_append_comm.append_right _
   rw[←hio']at orr
   obtain⟨fs2,G5,s5⟩:=Jco (C':=C') hk hm rfl ao orr hn hp G4
   refine⟨fs2,G5,?_⟩
   have s12:Step M tf fs1 env1 H1 fs1 env1 H2:=⟨fun a ha=>keep a (List.mem_append_right _ (List.mem_append_right _ ha)),fun _ _=>rfl,fun _ _=>rfl,fun i _ a ha=>keep a (List.mem_append_left _ (QQ ha)),m⟩
   exact((s1.trans s12).trans (s5.weak (fun _ z=>z) fun x hx=>List.mem_append_right _ hx)).weak (fun i hi=>by
    rcases List.mem_append.mp hi with z | z
    ·exact(List.mem_append.mp z).elim id id
    ·exact z) fun _ z=>z
  cases e2:φ (avs.map AV.d) with
  | err=>rw[e2]at po1;exact po1.elim
  | ok r os =>
   rw[e2]at po1
   simp only[Ja1]at po1
   split at po1
   ·rename_i hn
    have hn:=Bool.and_eq_true_iff.mp hn
    cases e3:Um avs os env1 with
    | none=>rw[e3]at po1;exact po1.elim
    | some env2 =>
     rw[e3]at po1
     intro v H2 fpr fpso f m rr orr nd hw
     obtain⟨fs2,G2,s2⟩:=fin f m orr hn.2 e3 nd hw rr.trk
     exact po1 v fs2 H2 fpr G2 s2 (rr.leave hk hm rfl hn.1)
   ·exact po1.elim
  | ex x os =>
   rw[e2]at po1
   simp only[Ja1]at po1
   split at po1
   ·rename_i hn
    cases e3:Um avs os env1 with
    | none=>rw[e3]at po1;exact po1.elim
    | some env2 =>
     rw[e3]at po1
     intro cv dd H2 fpso f m hx orr nd hw
     obtain⟨fs2,G2,s2⟩:=fin (fpr:=[]) f m orr hn e3 (by rw[List.nil_append];exact nd) (by rw[List.nil_append];exact hw) fun _ z=>nomatch z
     exact hE σ cv dd H2 (po1 cv dd fs2 H2 (by simpa using G2) s2 (hx.leave hk hm rfl))
   ·exact po1.elim
end
end VS
namespace VS
open PySem L2 SeqAt
structure SRI (X:Cx) (W:WX) (M Rs:List Nat) (io:List Bool) (es:List Expr) (c:Env→R (List AV)):Prop where
 sr:SR X W M Rs es c
 shape:∀env avs env',c env=.ok avs env'→avs.map AV.io=io
theorem R.bind_ok {α β:Type} {r:R α} {f:α→Env→R β} {b:β} {env:Env} (h:r.bind f=.ok b env):∃a env1,r=.ok a env1∧f a env1=.ok b env:=by
 cases r with
 | ok a e=>exact⟨a,e,rfl,h⟩
 | ex x e=>cases h
 | err=>cases h
section
variable {X:Cx} {W:WX} {M M1 M2 M3 V1 V2 V3 Rs R1 R2 R3:List Nat} {e a b c tg:Expr} {es:List Expr} {ca cb cc:CE} {pos p:Pos} {cr:Env→R (List AV)} {io:List Bool}
theorem Jq:SRI X W [] [] [] [] aNil:=⟨sr_nil,fun env avs env' h=>by cases h;rfl⟩
theorem Ji (ha:SB X W M1 R1 a ca) (hr:SRI X W M2 R2 io es cr) (hd:djB R1 M2=true:=by decide) (hs:starEach (a::es) X.env=(false,eval a X.env)::starEach es X.env:=by rfl):SRI X W (M1++M2) (R1++R2) (false::io) (a::es) (aRo ca cr) :=
 ⟨sr_ro ha hr.sr hd hs,fun env avs env' h=>by
  obtain⟨d,e1,h1,h2⟩:=R.bind_ok h
  obtain⟨as,e2,h3,h4⟩:=R.bind_ok h2
  cases h4
  simp[AV.io,hr.shape _ _ _ h3]⟩
theorem JfD {wb} (hr:SRI X W M2 R2 io es cr):∀env avs env',aOw ca wb cr env=.ok avs env'→avs.map AV.io=true::io:=fun env avs env' h=>by
 obtain⟨d,e1,h1,h2⟩:=R.bind_ok h
 obtain⟨as,e2,h3,h4⟩:=R.bind_ok h2
 cases h4
 simp[AV.io,hr.shape _ _ _ h3]
theorem sri_ow (ha:SO X W M1 a ca) (hr:SRI X W M2 R2 io es cr) (hs:starEach (a::es) X.env=(false,eval a X.env)::starEach es X.env:=by rfl):SRI X W (M1++M2) R2 (true::io) (a::es) (aOw ca none cr) :=
 ⟨sr_ow ha hr.sr hs,JfD hr⟩
theorem sri_io (i:Nat) {x:Str} (hr:SRI X W M2 R2 io es cr) (hN:X.N[i]?=some x:=by rfl) (hv:Vis X.env.scope x:=by first | exact Or.inl rfl | exact Or.inr (Or.inl rfl) | exact Or.inr (Or.inr rfl)) (hd:(x == ("__debug__" : Str))=false:=by decide)
  (hcd:(x == ("__classdict__" : Str))=false:=by decide) (hs:starEach (.Name x pos::es) X.env=(false,eval (.Name x pos) X.env)::starEach es X.env:=by rfl):SRI X W ([i]++M2) R2 (true::io) (.Name x pos::es) (aOw (cMv i) (some i) cr) :=
 ⟨sr_io i hr.sr hN hv hd hcd hs,JfD hr⟩
def Fd (P:Program) (w:World) (K:PySem.W.Frag) (mg:Str→Option Value) (base:Heap) (k:Nat) (x:Str) (ps:List Str) (io:List Bool) (φ:List D→FR):Prop :=
 ∃(f:Addr) (fd:FuncData),FnOk P w K mg base (L2.CX P w) k f fd ps (spF K mg io φ)∧mg x=some (.ref f)∧PySem.W.keepIn K (.ref f)=true∧Binds K fd ps []
theorem Jr {k:Nat} {x:Str} {ps:List Str} {φ:List D→FR} {pf:Pos} (F:Fd X.prog X.w X.K X.mg X.base k x ps io φ) (hr:Room k X.A) (tk:Takes X W) (ha:SRI X W M Rs io (e::es) cr) (hg:Gl X x:=by rfl)
  (hdb:(x == ("__debug__" : Str))=false:=by decide) (he:starEach (e::es) X.env=(false,eval e X.env)::starEach es X.env:=by rfl) (hpl:(backTo pos (starEach es X.env)).any (·.1)=false:=by rfl) :
  SO X W M (.Call (.Name x pf) (e::es) [] pos) (Jo φ cr):=by
 obtain⟨f,fd,G,hm,hk,hb⟩:=F
 obtain⟨t,p,q⟩:=ha.sr.go
 refine⟨tCallS (spF X.K X.mg io φ) (WE W) t,pe_callS G hr hg hm hk hb (fun σ=>passAt tk σ) p hdb he hpl,?_⟩
 exact Jgw (E:=WE W) (fun _ _ _ _ h=>h) ha.shape q (by unfold djB;simp)
end
def Jf2 (K:PySem.W.Frag):Sp:=fun vs H Q _=>∃(a:Addr) (ns:List Int),vs=[.ref a]∧SqL K H a (ns.map V.int)∧ns.length≤63∧(∀z∈ns,Builtin.Int.intBits z≤1048576)∧∀H',Q (.bl true) H'
theorem Jeo {C:Ctx} {H:Hp}:∀ns:List Int,Reps C H (ns.map D.int) (ns.map V.int) []
 | []=>⟨rfl,rfl⟩
 | n::ns=>⟨.int n,ns.map V.int,[],[],rfl,⟨rfl,rfl⟩,Jeo ns,rfl⟩
theorem YN {P:Program} {w:World} {K:PySem.W.Frag} {mg:Str→Option Value} {base:Heap} {k:Nat} {x:Str} {st:Stmt} {f:Addr} {fd:FuncData} {ps:List Str} {io:List Bool} {φ:List D→FR} (F:Fun K x x st f fd) (hm:mg x=some (.ref f)) (hb:Binds K fd ps [])
  (h:FnOk P w K mg base (L2.CX P w) k f fd ps (spF K mg io φ)):Fd P w K mg base k x ps io φ:=⟨f,fd,h,hm,F.kp,hb⟩
theorem Fd.mono {P:Program} {w:World} {K:PySem.W.Frag} {mg:Str→Option Value} {base:Heap} {j k:Nat} {x:Str} {ps:List Str} {io:List Bool} {φ:List D→FR} (F:Fd P w K mg base j x ps io φ) (h:j≤k):Fd P w K mg base k x ps io φ :=
 let ⟨f,fd,G,a,b,c⟩:=F
 ⟨f,fd,G.mono h,a,b,c⟩
end VS
namespace VS
open PySem L2 SeqAt
structure Foc (C:Ctx) (H:Hp) (d:D) (v:V) (g1:List Addr) (d':D) (v':V) (fp' g2:List Addr) (F:D→D):Prop where
 here:Rep C H d' v' fp'
 back:∀H' d'' fp'',Mono H H'→(∀a∈g1++g2,H' a=H a)→Rep C H' d'' v' fp''→Rep C H' (F d'') v (g1++fp''++g2)
def JiJ (W:WX) (C:Ctx) (i:Nat) (M:List Nat) (tf:List Addr) (fs:FPs) (env:Env) (σ:St) (H:Hp) (Q:VK):R (D × (D→D))→Prop
 | .ok dF env'=>∀v' fs' H' d v g1 fp' g2,Good C fs' env' σ H' tf→Step M tf fs env H fs' env' H'→env'[i]?=some (some d)→σ[i]?=some (some v)→fs'.getD i []=g1++fp'++g2→Foc C H' d v g1 dF.1 v' fp' g2 dF.2→Q v' H'
 | .ex x env'=>∀cv dd fs' H',Good C fs' env' σ H' tf→Step M tf fs env H fs' env' H'→ExIs C x cv dd H'→W cv dd σ H'
 | .err=>False
abbrev CL:=Env→R (D × (D→D))
structure SL (X:Cx) (W:WX) (i:Nat) (M:List Nat) (e:Expr) (c:CL):Prop where
 go:∃t,PE X e t∧∀C fs env σ H tf Q,C.At X→Good C fs env σ H tf→JiJ W C i M tf fs env σ H Q (c env)→t σ H Q
section
variable {X:Cx} {W:WX} {M M1 M2 M3 V1 V2 V3 Rs R1 R2 R3:List Nat} {e a b c tg o:Expr} {es:List Expr} {ca cb cc:CE} {cs:CA} {pos p:Pos} {cl:CL} {i:Nat}
variable {pins:List (Addr × Obj)} {σ:St} {H H1 H2 H':Hp} {s:Shared} {C C':Ctx} {fs fs1 fs2:FPs} {env env1 env2:Env} {tf tf' own:List Addr}
theorem foc_self {d v fp} (r:Rep C H d v fp):Foc C H d v [] d v fp [] id:=⟨r,fun H' d'' fp'' _ _ r'=>by simpa using r'⟩
theorem Foc.keep {d v g1 d' v' fp' g2 F} (f:Foc C H d v g1 d' v' fp' g2 F) (m:Mono H H') (k:∀a∈g1++fp'++g2,H' a=H a):Foc C H' d v g1 d' v' fp' g2 F :=
 ⟨f.here.keep (fun a ha=>k a (by simp[ha])) m,fun H2 d'' fp'' m2 k2 r=>f.back H2 d'' fp'' (m.trans m2) (fun a ha=>(k2 a ha).trans (k a (by
  rcases List.mem_append.mp ha with z | z<;>simp[z]))) r⟩
theorem Foc.comp {d v g1 d1 v1 fp1 g2 F h1 d2 v2 fp2 h2 G} (f:Foc C H d v g1 d1 v1 fp1 g2 F) (g:Foc C H d1 v1 h1 d2 v2 fp2 h2 G) (e:fp1=h1++fp2++h2):Foc C H d v (g1++h1) d2 v2 fp2 (h2++g2) (F∘G):=by
 refine⟨g.here,fun H' d'' fp'' m k r=>?_⟩
 have r1:=g.back H' d'' fp'' m (fun a ha=>k a (by rcases List.mem_append.mp ha with z | z<;>simp[z])) r
 have r2:=f.back H' (G d'') _ m (fun a ha=>k a (by rcases List.mem_append.mp ha with z | z<;>simp[z])) r1
 simpa [List.append_assoc] using r2
theorem Jch:∀{ds:List D} {vs:List V} {fp:List Addr} {j:Nat} {x:D},Reps C H ds vs fp→ds[j]?=some x→∃w g1 f g2,vs[j]?=some w∧Rep C H x w f∧fp=g1++f++g2 ∧
  ∀H' y w' f',Mono H H'→(∀a∈g1++g2,H' a=H a)→Rep C H' y w' f'→Reps C H' (ds.set j y) (vs.set j w') (g1++f'++g2)
 | [],vs,fp,j,x,_,h=>by simp at h
 | d::ds,vs,fp,0,x,⟨v,vs',f1,f2,e,r,rs,e2⟩,h=>by
  simp at h;subst h;subst e
  refine⟨v,[],f1,f2,by simp,r,by simpa using e2,fun H' y w' f' m k r'=>?_⟩
  exact⟨w',vs',f',f2,rfl,r',rs.keep (fun a ha=>k a (by simp[ha])) m,by simp⟩
 | d::ds,vs,fp,j+1,x,⟨v,vs',f1,f2,e,r,rs,e2⟩,h=>by
  subst e
  obtain⟨w,g1,f,g2,h1,h2,h3,h4⟩:=Jch (j:=j) rs (by simpa using h)
  refine⟨w,f1++g1,f,g2,by simpa using h1,h2,by rw[e2,h3];simp[List.append_assoc],fun H' y w' f' m k r'=>?_⟩
  exact⟨v,_,f1,g1++f'++g2,rfl,r.keep (fun a ha=>k a (by simp[ha])) m,h4 H' y w' f' m (fun a ha=>k a (by rcases List.mem_append.mp ha with z | z<;>simp[z])) r',by simp[List.append_assoc]⟩
def idxK:List Key→Key→Option Nat
 | [],_=>none
 | k0::ks,k=>if k0=k then some 0 else (idxK ks k).map (·+1)
theorem Jdi:∀{kvs:List (Key × V)} {k:Key} {j:Nat},idxK (kvs.map (·.1)) k=some j→valV kvs k=(kvs[j]?).map (·.2)∧j < kvs.length
 | [],k,j,h=>by simp[idxK]at h
 | kv::kvs,k,j,h=>by
  simp only[List.map_cons,idxK]at h
  by_cases e:kv.1=k
  ·rw[if_pos e]at h;cases h
   exact⟨by rw[valV_pos e];simp,by simp⟩
  ·rw[if_neg e]at h
   obtain⟨j',h',rfl⟩:=Option.map_eq_some_iff.mp h
   obtain⟨h1,h2⟩:=Jdi h'
   exact⟨by rw[valV_neg e,h1];simp,by simp;omega⟩
theorem Jdz:∀{kvs:List (Key × V)} {k:Key},idxK (kvs.map (·.1)) k=none→valV kvs k=none
 | [],k,h=>rfl
 | kv::kvs,k,h=>by
  simp only[List.map_cons,idxK]at h
  by_cases e:kv.1=k
  ·rw[if_pos e]at h;cases h
  ·rw[if_neg e]at h
   rw[valV_neg e]
   exact Jdz (by simpa using h)
theorem Jcu:∀{kvs:List (Key × V)} {k:Key} {j:Nat} {v:V},(kvs.map (·.1)).Nodup→idxK (kvs.map (·.1)) k=some j→putK kvs k v=kvs.set j (k,v)
 | [],k,j,v,_,h=>by simp[idxK]at h
 | kv::kvs,k,j,v,nd,h=>by
  have h0:=h
  simp only[List.map_cons,idxK]at h
  simp only[List.map_cons,List.nodup_cons]at nd
  by_cases e:kv.1=k
  ·rw[if_pos e]at h;cases h
   unfold putK
   have:((kv::kvs).any fun kv=>decide (kv.1=k))=true:=by simp[e]
   rw[if_pos this]
   simp only[List.map_cons,List.set_cons_zero]
   rw[if_pos e,e]
   congr 1
   have key:∀x∈kvs,(if x.1=k then (x.1,v) else x)=x:=fun x hx=>by
    have:¬ x.1=k:=fun z=>nd.1 (List.mem_map.mpr ⟨x,hx,z.trans e.symm⟩)
    rw[if_neg this]
   rw[List.map_congr_left key];simp
  ·rw[if_neg e]at h
   obtain⟨j',h',rfl⟩:=Option.map_eq_some_iff.mp h
   have ih:=Jcu (v:=v) nd.2 h'
   have hv:=Jdi h'
   unfold putK at ih ⊢
   have a1:(kvs.any fun kv=>decide (kv.1=k))=true:=by
    rw[valV_any,hv.1,List.getElem?_eq_getElem hv.2];rfl
   have a2:((kv::kvs).any fun kv=>decide (kv.1=k))=true:=by simp[a1]
   rw[if_pos a1]at ih
   rw[if_pos a2]
   simp only[List.map_cons,List.set_cons_succ]
   rw[if_neg e,ih]
def lVar (i:Nat):CL:=fun env=>match env[i]? with
 | some (some d)=>.ok (d,id) env
 | _=>.err
theorem Za (i:Nat) {x:Str} (hN:X.N[i]?=some x:=by rfl) (hv:Vis X.env.scope x:=by first | exact Or.inl rfl | exact Or.inr (Or.inl rfl) | exact Or.inr (Or.inr rfl)) (hd:(x == ("__debug__" : Str))=false:=by decide)
  (hcd:(x == ("__classdict__" : Str))=false:=by decide):SL X W i [] (.Name x pos) (lVar i):=by
 refine⟨tVar i,pe_var hN hv hd hcd,fun C fs env σ H tf Q hC G po=>?_⟩
 unfold lVar at po
 split at po
 ·rename_i d e1
  obtain⟨v,e2,r⟩:=G.rep i d e1
  exact⟨v,e2,po v fs H d v [] (fs.getD i []) [] G .refl e1 e2 (by simp) (foc_self r)⟩
 ·exact po.elim
theorem Good.mut {d v g1 d' v' fp' g2 F d'' fp'' fx} (G:Good C fs env σ H (fx++tf)) (e1:env[i]?=some (some d)) (e2:σ[i]?=some (some v)) (e3:fs.getD i []=g1++fp'++g2) (Fo:Foc C H d v g1 d' v' fp' g2 F)
  (m:Mono H H') (ch:∀a o,H a=some o→a∉fp'→H' a=some o) (r:Rep C H' d'' v' fp'') (nd:(fp''++tf').Nodup) (sub:∀a∈fp''++tf',a∈fp'∨a∈fx++tf∨H a=none) (tk:∀a∈tf',∃o,H' a=some o∧Mutb o) :
  Good C (fs.set i (g1++fp''++g2)) (env.set i (some (F d''))) σ H' tf':=by
 have hl:=G.lt e1
 have hle:i < env.length:=by rw[G.le,←G.lf];exact hl
 have p0:=Jal fs hl
 have stay:∀a,(a∈g1++g2∨a∈(fs.set i []).flatten)→a∉fp'∧a∉fx++tf∧∃o,H a=some o∧Mutb o:=by
  intro a ha
  have hm:a∈fs.flatten:=by
   rcases ha with z | z
   ·refine p0.mem_iff.mpr (List.mem_append_left _ ?_)
    rw[e3];rcases List.mem_append.mp z with z | z<;>simp[z]
   ·exact p0.mem_iff.mpr (List.mem_append_right _ z)
  refine⟨fun hx=>?_,fun hx=>(List.nodup_append.mp G.nd).2.2 a hm a hx rfl,G.trk a (List.mem_append_left _ hm)⟩
  have nd1:=p0.nodup_iff.mp (List.nodup_append.mp G.nd).1
  rw[e3]at nd1
  rcases ha with z | z
  ·have:=(List.nodup_append.mp nd1).1
   have pp:(g1++fp'++g2).Perm (fp'++(g1++g2)):=by
    rw[List.append_assoc];exact List.perm_append_comm_assoc _ _ _
   exact(List.nodup_append.mp (pp.nodup_iff.mp this)).2.2 a hx a z rfl
  ·exact(List.nodup_append.mp nd1).2.2 a (by simp[hx]) a z rfl
 have keep:∀a,(a∈g1++g2∨a∈(fs.set i []).flatten)→H' a=H a:=fun a ha=>by
  obtain⟨h1,_,o,e,_⟩:=stay a ha
  rw[e];exact ch a o e h1
 have p1:=Jd4 fs hl (g1++fp''++g2)
 have pt:((fs.set i (g1++fp''++g2)).flatten++tf').Perm ((g1++g2)++(fs.set i []).flatten++(fp''++tf')):=by
  refine (p1.append_right tf').trans ?_
  have a1:(g1++fp''++g2).Perm ((g1++g2)++fp''):=by
   rw[List.append_assoc,List.append_assoc];exact List.perm_append_comm.append_left g1
  refine ((a1.append_right _).append_right _).trans ?_
  simp only[List.append_assoc]
  refine List.Perm.append_left _ (List.Perm.append_left _ ?_)
  exact List.perm_append_comm_assoc _ _ _
 refine⟨by simpa using G.le,by simpa using G.lf,fun j dj ej=>?_,pt.nodup_iff.mpr (List.nodup_append.mpr ⟨?_,nd,fun a ha b hb eab=>?_⟩),fun a ha=>?_,fun a ha=>?_,?_,fun a ha=>?_⟩
 ·rw[List.getElem?_set]at ej
  by_cases hj:i=j
  ·subst hj
   simp[hle]at ej;subst ej
   refine⟨v,e2,?_⟩
   rw[Zl fs i i _ hl,if_pos rfl]
   exact Fo.back H' d'' fp'' m (fun a ha=>keep a (.inl ha)) r
  ·rw[if_neg hj]at ej
   obtain⟨w,h1,h2⟩:=G.rep j dj ej
   refine⟨w,h1,?_⟩
   rw[Zl fs i j _ hl,if_neg (Ne.symm hj)]
   refine h2.keep (fun a ha=>keep a (.inr ?_)) m
   have:a∈(fs.set i []).getD j []:=by rw[Zl fs i j _ hl,if_neg (Ne.symm hj)];exact ha
   exact QQ this
 ·have nd1:=p0.nodup_iff.mp (List.nodup_append.mp G.nd).1
  rw[e3]at nd1
  refine nd1.sublist ?_
  refine List.Sublist.append ?_ (List.Sublist.refl _)
  exact List.Sublist.append (List.sublist_append_left _ _) (List.Sublist.refl _)
 ·subst eab
  obtain⟨h1,h2,o,e,_⟩:=stay a (List.mem_append.mp ha)
  rcases sub a hb with z | z | z
  ·exact h1 z
  ·exact h2 z
  ·rw[z]at e;cases e
 ·have:=pt.mem_iff.mp ha
  rcases List.mem_append.mp this with z | z
  ·rcases List.mem_append.mp z with z | z
   ·refine G.own a (List.mem_append_left _ (p0.mem_iff.mpr (List.mem_append_left _ ?_)))
    rw[e3];rcases List.mem_append.mp z with z | z<;>simp[z]
   ·exact G.own a (List.mem_append_left _ (p0.mem_iff.mpr (List.mem_append_right _ z)))
  ·rcases sub a z with w | w | w
   ·refine G.own a (List.mem_append_left _ (p0.mem_iff.mpr (List.mem_append_left _ ?_)))
    rw[e3];simp[w]
   ·exact G.own a (List.mem_append_right _ w)
   ·exact G.fr.fresh w
 ·have:=pt.mem_iff.mp ha
  rcases List.mem_append.mp this with z | z
  ·obtain⟨_,_,o,e,mu⟩:=stay a (List.mem_append.mp z)
   exact⟨o,by rw[keep a (List.mem_append.mp z)];exact e,mu⟩
  ·rcases List.mem_append.mp z with z | z
   ·exact r.trk a z
   ·exact tk a z
 ·intro a o e na
  rcases G.fr a o e na with q | ⟨q1,q2,ob,q⟩
  ·refine .inl (ch a o q fun hx=>?_)
   have:a∈fs.flatten:=p0.mem_iff.mpr (List.mem_append_left _ (by rw[e3];simp[hx]))
   rcases G.own a (List.mem_append_left _ this) with w | w
   ·exact na w
   ·rw[e]at w;cases w
  ·exact .inr ⟨q1,q2,ob,m.z _ _ _ q⟩
 ·obtain⟨ob,u,e⟩:=G.lk a ha
  exact⟨ob,u,m.z _ _ _ e⟩
theorem Step.mut {d:D} {g1 fp' g2 fx:List Addr} {dn:D} {fn:List Addr} (G:Good C fs env σ H (fx++tf)) (e1:env[i]?=some (some d)) (e3:fs.getD i []=g1++fp'++g2)
  (m:Mono H H') (ch:∀a o,H a=some o→a∉fp'→H' a=some o):Step [i] tf fs env H (fs.set i fn) (env.set i (some dn)) H':=by
 have hl:=G.lt e1
 have inf:∀a∈fp',a∈fs.getD i []:=fun a ha=>by rw[e3];simp[ha]
 refine⟨fun a ha=>?_,fun j hj=>?_,fun j hj=>?_,fun j hj a ha=>?_,m⟩
 ·obtain⟨o,e,_⟩:=G.trk a (by simp[ha])
  rw[e];exact ch a o e fun hx=>G.apartT (inf a hx) (by simp[ha])
 ·rw[Zl fs i j _ hl,if_neg (by simpa using hj)]
 ·rw[List.getElem?_set,if_neg (by intro z;subst z;simp at hj)]
 ·obtain⟨o,e,_⟩:=G.trk a (List.mem_append_left _ (QQ ha))
  rw[e];exact ch a o e fun hx=>G.apart (by simpa using hj) ha (inf a hx)
structure MuOk (X:Cx) (T:String) (r:V→List V→Hp→VK→Prop) (kd:D→Bool) (mp:D→List D→Option (D × D)):Prop where
 run:∀C H v d fp vs ds fpa Q d' res,C.At X→Fr C H→Rep C H d v fp→Reps C H ds vs fpa→(fp++fpa).Nodup→mp d ds=some (d',res) →
  (∀H' w fp' fpr,Mono H H'→(∀a o,H a=some o→a∉fp→H' a=some o)→Rep C H' d' v fp'→Rep C H' res w fpr→(fp'++fpr).Nodup→(∀a∈fp'++fpr,a∈fp∨a∈fpa∨H a=none)→Q w H')→r v vs H Q
 ty:∀C H v d fp,C.At X→Fr C H→Rep C H d v fp→kd d=true→tyV X.K T v H
def cMut (i:Nat) (kd:D→Bool) (mp:D→List D→Option (D × D)) (cl:CL) (cs:CA):CE:=fun env=>(cl env).bind fun dF env=>if kd dF.1 then (cs env).bind fun ds env=>match mp dF.1 ds with
 | some dr=>.ok dr.2 (env.set i (some (dF.2 dr.1)))
 | none=>.err
 else .err
theorem mut_go {T:String} {r:V→List V→Hp→VK→Prop} {kd:D→Bool} {mp:D→List D→Option (D × D)} (mu:MuOk X T r kd mp) {t:TE} {t2:TA} (hi:djB [i] M2=true)
  (q:∀C fs env σ H tf Q,C.At X→Good C fs env σ H tf→JiJ W C i M1 tf fs env σ H Q (cl env)→t σ H Q)
  (q2:∀C fs env σ H tf Q,C.At X→Good C fs env σ H tf→Jge W C M2 tf fs env σ H Q (cs env)→t2 σ H Q) {tt:TE}
  (htt:∀σ H Q,(t σ H fun x H1=>(tyV X.K T x H1∧t2 σ H1 fun xs H2=>r x xs H2 Q))→tt σ H Q) :
  ∀C fs env σ H tf Q,C.At X→Good C fs env σ H tf→Ut W C (M1++(M2++[i])) tf fs env σ H Q (cMut i kd mp cl cs env)→tt σ H Q:=by
 intro C fs env σ H tf Q hC G po
 refine htt σ H Q (q C fs env σ H tf _ hC G ?_)
 unfold cMut at po
 cases e1:cl env with
 | err=>rw[e1]at po;exact po
 | ex x env'=>rw[e1]at po;exact fun cv dd fs' H' G' s=>po cv dd fs' H' G' (s.weak ZG fun _ z=>z)
 | ok dF env1 =>
  rw[e1]at po
  intro v' fs1 H1 d v g1 fp' g2 G1 s1 hd hv hf Fo
  have po0:Ut W C (M1++(M2++[i])) tf fs env σ H Q (if kd dF.1 then (cs env1).bind fun ds env=>match mp dF.1 ds with
   | some dr=>.ok dr.2 (env.set i (some (dF.2 dr.1)))
   | none=>.err
   else .err):=po
  split at po0
  case isFalse=>exact po0.elim
  rename_i hkd
  refine⟨mu.ty C H1 v' dF.1 fp' hC G1.fr Fo.here hkd,?_⟩
  refine q2 C fs1 env1 σ H1 tf _ hC G1 ?_
  have po1:Ut W C (M1++(M2++[i])) tf fs env σ H Q ((cs env1).bind fun ds env=>match mp dF.1 ds with
   | some dr=>.ok dr.2 (env.set i (some (dF.2 dr.1)))
   | none=>.err):=po0
  cases e2:cs env1 with
  | err=>rw[e2]at po1;exact po1
  | ex x env'=>rw[e2]at po1;exact fun cv dd fs' H' G' s=>po1 cv dd fs' H' G' ((s1.trans s).weak (fun i hi=>by
    rcases List.mem_append.mp hi with z | z<;>simp[z]) fun _ z=>z)
  | ok ds env2 =>
   rw[e2]at po1
   intro vs fs2 H2 fpa G2 s2 ra
   have ni:i∉M2:=Jaf hi i (by simp)
   have Fo2:=Fo.keep s2.m (fun a ha=>s2.h i ni a (by rw[hf];exact ha))
   have hd2:env2[i]?=some (some d):=by rw[s2.e i ni];exact hd
   have hf2:fs2.getD i []=g1++fp'++g2:=by rw[s2.f i ni];exact hf
   have po2:Ut W C (M1++(M2++[i])) tf fs env σ H Q (match mp dF.1 ds with
    | some dr=>.ok dr.2 (env2.set i (some (dF.2 dr.1)))
    | none=>.err):=po1
   cases e3:mp dF.1 ds with
   | none=>rw[e3]at po2;exact po2.elim
   | some dr =>
    rw[e3]at po2
    obtain⟨d',res⟩:=dr
    have inf:∀a∈fp',a∈fs2.getD i []:=fun a ha=>by rw[hf2];simp[ha]
    have ndp:(fp'++fpa).Nodup:=by
     have nd:=G2.nd
     refine List.nodup_append.mpr ⟨?_,(List.nodup_append.mp (List.nodup_append.mp nd).2.1).1,fun a ha b hb eab=>?_⟩
     ·have:=(List.nodup_append.mp nd).1
      have:=(Jal fs2 (G2.lt hd2)).nodup_iff.mp this
      have:=(List.nodup_append.mp this).1
      rw[hf2]at this
      exact(List.nodup_append.mp (List.nodup_append.mp this).1).2.1
     ·subst eab;exact G2.apartT (inf a ha) (by simp[hb])
    refine mu.run C H2 v' dF.1 fp' vs ds fpa Q d' res hC G2.fr Fo2.here ra ndp e3 fun H3 w fp3 fpr m3 ch r3 rr nd3 sub3=>?_
    have tfk:∀a∈tf,H3 a=H2 a:=fun a ha=>by
     obtain⟨o,e,_⟩:=G2.trk a (by simp[ha])
     rw[e];exact ch a o e fun hx=>G2.apartT (inf a hx) (by simp[ha])
    have Gn:Good C (fs2.set i (g1++fp3++g2)) (env2.set i (some (dF.2 d'))) σ H3 (fpr++tf):=by
     refine G2.mut hd2 hv hf2 Fo2 m3 ch r3 ?_ ?_ ?_
     ·rw[←List.append_assoc]
      refine List.nodup_append.mpr ⟨nd3,(List.nodup_append.mp (List.nodup_append.mp G2.nd).2.1).2.1,fun a ha b hb eab=>?_⟩
      subst eab
      rcases sub3 a ha with z | z | z
      ·exact G2.apartT (inf a z) (by simp[hb])
      ·exact(List.nodup_append.mp (List.nodup_append.mp G2.nd).2.1).2.2 a z a hb rfl
      ·obtain⟨o,e,_⟩:=G2.trk a (by simp[hb])
       rw[z]at e;cases e
     ·intro a ha
      rw[←List.append_assoc]at ha
      rcases List.mem_append.mp ha with z | z
      ·rcases sub3 a z with w | w | w
       ·exact .inl w
       ·exact .inr (.inl (by simp[w]))
       ·exact .inr (.inr w)
      ·exact .inr (.inl (by simp[z]))
     ·intro a ha
      rcases List.mem_append.mp ha with z | z
      ·exact rr.trk a z
      ·rw[tfk a z];exact G2.trk a (by simp[z])
    have sn:Step [i] tf fs2 env2 H2 (fs2.set i (g1++fp3++g2)) (env2.set i (some (dF.2 d'))) H3:=Step.mut (d:=d) G2 hd2 hf2 m3 ch
    exact po2 w _ H3 fpr Gn (by
     have:=(s1.trans s2).trans sn
     rw[List.append_assoc]at this;exact this) rr
variable {T id:String} {name:Str} {apos cpos:Pos} {r:V→List V→Hp→VK→Prop} {kd:D→Bool} {mp:D→List D→Option (D × D)} {e1':Expr}
theorem Jif (mu:MuOk X T r kd mp) (pa:PlainAttrs T) (slot:Slot T name id) (hty:typeOf (.builtin id)=pure (.type "method_descriptor")) (hm:MtR X id r) (ho:SL X W i M1 o cl) (ha:SAO X W M2 (e::es) cs)
  (hi:djB [i] M2=true:=by decide) (hbase:attributeBase o name X.env (eval o X.env)=eval o X.env:=by rfl)
  (hfew:((backTo cpos (starEach (e::es) X.env)).all (fun x=>!x.1) && (backToKw cpos (keywordEach [] X.env)).all (fun x=>x.1.isSome)
   && decide ((e::es).length+([]:List Keyword).length+(if ([]:List Keyword).isEmpty then 0 else 1) < 30))=true:=by rfl)
  (hline:(apos.endLine == cpos.line)=true:=by rfl) (hs:starEach (e::es) X.env=(false,eval e X.env)::starEach es X.env:=by rfl) (hplain:(backTo cpos (starEach es X.env)).any (·.1)=false:=by rfl) :
  SO X W (M1++(M2++[i])) (.Call (.Attribute o name apos) (e::es) [] cpos) (cMut i kd mp cl cs):=by
 obtain⟨t,p,q⟩:=ho.go
 obtain⟨t2,p2,q2⟩:=ha.go
 exact⟨tBM X.K T r t t2,pe_bm pa slot hty hm p p2 hbase hfew hline hs hplain,mut_go mu hi q q2 fun σ H Q h=>h⟩
def kdL:D→Bool
 | .lst .m _=>true
 | _=>false
theorem kdL_inv {d:D} (h:kdL d=true):∃ds,d=.lst .m ds:=by
 unfold kdL at h
 split at h
 ·exact⟨_,rfl⟩
 ·cases h
theorem JgI:∀C H v d fp,C.At X→Fr C H→Rep C H d v fp→kdL d=true→tyV X.K "list" v H:=by
 intro C H v d fp hC hF r h
 obtain⟨ds,rfl⟩:=kdL_inv h
 obtain⟨a,vs,f,rfl,q,_⟩:=JF hC hF r
 exact .inl ⟨rfl,vs,q⟩
theorem Jha {ds v fp} (r:Rep C H (.lst .m ds) v fp):∃a vs f,v=.ref a∧H a=some (.lst vs)∧Reps C H ds vs f∧fp=a::f:=by
 obtain⟨a,vs,f1,f2,e,⟨h,rfl⟩,r,_,e2⟩:=r
 exact⟨a,vs,f2,e,h,r,e2⟩
theorem UR:∀{ds es:List D} {vs ws:List V} {f g:List Addr},Reps C H ds vs f→Reps C H es ws g→Reps C H (ds++es) (vs++ws) (f++g)
 | [],es,vs,ws,f,g,⟨h1,h2⟩,r=>by subst h1 h2;exact r
 | d::ds,es,vs,ws,f,g,⟨v,vs',f1,f2,e,r1,rs,e2⟩,r=>by subst e e2;exact⟨v,vs'++ws,f1,f2++g,rfl,r1,UR rs r,by simp⟩
def Uc:D→List D→Option (D × D)
 | .lst .m ds,[x]=>if ds.length < sizeLine then some (.lst .m (ds++[x]),.non) else none
 | _,_=>none
theorem mu_append:MuOk X "list" rAppend kdL Uc:=by
 refine⟨?_,JgI⟩
 intro C H v d fp vs ds fpa Q d' res hC hF r ra nd h k
 unfold Uc at h
 split at h
 ·rename_i ds x
  split at h
  ·rename_i hz
   cases h
   obtain⟨a,ws,f,rfl,hH,rs,rfl⟩:=Jha r
   obtain⟨w,rfl,rx⟩:=Zn ra
   have m:=Mono.upd (o:=.lst (ws++[w])) hH trivial
   have nda:a∉f++fpa:=by simp at nd ⊢;exact⟨nd.1.1,nd.1.2⟩
   have kp:∀b∈f++fpa,upd H a (.lst (ws++[w])) b=H b:=fun b hb=>upd_ne (fun z=>nda (z ▸ hb))
   refine⟨a,ws,w,rfl,rfl,hH,by rw[←Jz rs];exact hz,?_⟩
   refine k _ .non (a::(f++fpa)) [] m (fun b o e hb=>?_) ⟨a,_,[a],_,rfl,⟨upd_same,rfl⟩,UR (rs.keep (fun b hb=>kp b (by simp[hb])) m) ⟨w,[],fpa,[],rfl,rx.keep (fun b hb=>kp b (by simp[hb])) m,⟨rfl,rfl⟩,by simp⟩,.inl rfl,rfl⟩ ⟨rfl,rfl⟩ (by simpa using nd) fun b hb=>?_
   ·rw[upd_ne (fun z=>hb (by simp[z]))];exact e
   ·simp at hb ⊢
    rcases hb with z | z | z<;>simp[z]
  ·cases h
 ·cases h
def putD (ks:List Key) (ds:List D) (k:Key) (x:D):D:=match idxK ks k with
 | some j=>.dct .m ks (ds.set j x)
 | none=>.dct .m (ks++[k]) (ds++[x])
def stD:D→D→D→Option D
 | .lst .m ds,.int k,x=>(ixN ds.length k).map fun j=>.lst .m (ds.set j x)
 | .dct .m ks ds,k,x=>k.key.bind fun k=>if ks.length < sizeLine then some (putD ks ds k x) else none
 | _,_,_=>none
end
end VS
namespace VS
open PySem L2 SeqAt
section
variable {X:Cx} {W:WX} {M M1 M2 M3 V1 V2 V3 Rs R1 R2 R3:List Nat} {e a b c tg o:Expr} {es:List Expr} {ca cb cc:CE} {cs:CA} {pos p:Pos} {cl:CL} {i:Nat}
variable {pins:List (Addr × Obj)} {σ:St} {H H1 H2 H':Hp} {s:Shared} {C C':Ctx} {fs fs1 fs2:FPs} {env env1 env2:Env} {tf tf' own:List Addr}
def Jhh:V→V→V→Hp→(Hp→Prop)→Prop:=fun o i v H Q=>∃a H',o=.ref a∧DPut H a i v H'∧Q H'
theorem set_dict {k:Nat} (hr:Room k X.A):PSet X Jhh:=by
 intro pins s σ H o i v ov iv u Q I ro ri rv ⟨a,H',e,g,q⟩
 subst e
 cases (show ov=Value.ref a from ro)
 exact d_setItem (by have:=hr.units;omega) I g ri rv fun s' I'=>⟨H',I',q⟩
theorem set_any {k:Nat} (hr:Room k X.A):PSet X (fun o i v H Q=>rSetL o i v H Q∨Jhh o i v H Q):=by
 intro pins s σ H o i v ov iv u Q I ro ri rv h
 rcases h with h | h
 ·exact set_list pins s σ H o i v ov iv u Q I ro ri rv h
 ·exact set_dict hr pins s σ H o i v ov iv u Q I ro ri rv h
theorem JcT {kvs:List (Key × V)} {j:Nat} {k:Key} {v:V}:(kvs.set j (k,v)).map (·.2)=(kvs.map (·.2)).set j v:=by
 rw[List.map_set]
theorem Jc3 {kvs:List (Key × V)} {j:Nat} {k:Key} {v:V} (h:(kvs[j]?).map (·.1)=some k):(kvs.set j (k,v)).map (·.1)=kvs.map (·.1):=by
 rw[List.map_set]
 have hj:j < kvs.length:=by
  by_cases q:j < kvs.length
  ·exact q
  ·rw[List.getElem?_eq_none (by omega)]at h;simp at h
 have:(kvs.map (·.1))[j]'(by simpa using hj)=k:=by
  rw[List.getElem?_eq_getElem hj]at h
  simpa using h
 conv=>rhs;rw[←List.set_getElem_self (as:=kvs.map (·.1)) (i:=j) (by simpa using hj)]
 rw[this]
theorem JdR:∀{ks:List Key} {k:Key} {j:Nat},idxK ks k=some j→ks[j]?=some k
 | [],k,j,h=>by simp[idxK]at h
 | k0::ks,k,j,h=>by
  simp only[idxK]at h
  by_cases e:k0=k
  ·rw[if_pos e]at h;cases h;simp[e]
  ·rw[if_neg e]at h
   obtain⟨j',h',rfl⟩:=Option.map_eq_some_iff.mp h
   simpa using JdR h'
theorem JeT:∀{ks:List Key} {k:Key},idxK ks k=none→k∉ks
 | [],k,_=>by simp
 | k0::ks,k,h=>by
  simp only[idxK]at h
  by_cases e:k0=k
  ·rw[if_pos e]at h;cases h
  ·rw[if_neg e]at h
   have:=JeT (ks:=ks) (k:=k) (by simpa using h)
   simp[this,Ne.symm e]
theorem st_ok {d y x d':D} {v w vx:V} {fp fw fx} (hC:C.At X) (hF:Fr C H) (r:Rep C H d v fp) (ry:Rep C H y w fw) (rx:Rep C H x vx fx) (nd:(fp++fx).Nodup) (h:stD d y x=some d') {Q:Hp→Prop}
  (k:∀H' fp',Mono H H'→(∀a o,H a=some o→a∉fp→H' a=some o)→Rep C H' d' v fp'→fp'.Nodup→(∀a∈fp',a∈fp∨a∈fx)→Q H'):rSetL v w vx H Q∨Jhh v w vx H Q:=by
 unfold stD at h
 split at h
 ·rename_i ds n
  obtain⟨j,hj,rfl⟩:=Option.map_eq_some_iff.mp h
  obtain⟨a,vs,f,rfl,hH,rs,rfl⟩:=Jha r
  obtain⟨rfl,_⟩:=ry
  have hjl:j < ds.length:=(ixN_seq hj).2.1
  obtain⟨w',g1,fo,g2,h1,h2,h3,h4⟩:=Jch rs (j:=j) (x:=ds[j]) (by simp[hjl])
  have m:=Mono.upd (o:=.lst (vs.set j vx)) hH trivial
  subst h3
  have nda:a∉g1++fo++g2++fx:=by simp at nd ⊢;exact⟨nd.1.1,nd.1.2.1,nd.1.2.2.1,nd.1.2.2.2⟩
  refine .inl ⟨a,vs,n,j,rfl,rfl,hH,by rw[←Jz rs];exact hj,?_⟩
  have kp:∀b,b≠a→upd H a (.lst (vs.set j vx)) b=H b:=fun b hb=>upd_ne hb
  refine k _ (a::(g1++fx++g2)) m (fun b o e hb=>?_) ⟨a,_,[a],_,rfl,⟨upd_same,rfl⟩,h4 _ x vx fx m (fun b hb=>kp b ?_) (rx.keep (fun b hb=>kp b ?_) m),.inl rfl,rfl⟩ ?_ ?_
  ·rw[kp b (fun z=>hb (by simp[z]))];exact e
  ·intro z;subst z;exact nda (by simp at hb ⊢;rcases hb with z | z<;>simp[z])
  ·intro z;subst z;exact nda (by simp[hb])
  ·have p:(a::(g1++fx++g2)++fo).Perm (a::(g1++fo++g2)++fx):=by
    refine List.Perm.cons a ?_
    show ((g1++fx++g2)++fo).Perm ((g1++fo++g2)++fx)
    simp only[List.append_assoc]
    refine List.Perm.append_left g1 ?_
    have a1:(fx++(g2++fo)).Perm ((g2++fo)++fx):=List.perm_append_comm
    refine a1.trans ?_
    rw[List.append_assoc]
    exact List.perm_append_comm_assoc _ _ _
   exact(List.nodup_append.mp (p.nodup_iff.mpr nd)).1
  ·intro b hb
   simp at hb ⊢
   rcases hb with z | z | z | z<;>simp[z]
 ·rename_i ks ds
  obtain⟨ky,hk,h⟩:=Option.bind_eq_some_iff.mp h
  split at h
  case isFalse=>cases h
  rename_i hz
  cases h
  obtain⟨a,kvs,f1,f,rfl,⟨hH,rfl⟩,⟨hks,hnd⟩,rs,_,rfl⟩:=r
  have ey:=Je7 hk ry
  have hl:kvs.length < sizeLine:=by
   have:kvs.length=ks.length:=by rw[←hks];simp
   omega
  have m:=Mono.upd (o:=.dK (putK kvs ky vx)) hH trivial
  have kp:∀b,b≠a→upd H a (.dK (putK kvs ky vx)) b=H b:=fun b hb=>upd_ne hb
  refine .inr ⟨a,_,rfl,.inl ⟨kvs,ky,hH,ey,hl,rfl⟩,?_⟩
  cases q:idxK ks ky with
  | some j =>
   have ed:putD ks ds ky x=.dct .m ks (ds.set j x):=by unfold putD;rw[q]
   rw[ed]at k
   have q':=q
   rw[←hks]at q'
   have hn:(kvs.map (·.1)).Nodup:=by rw[hks];exact hnd
   have e1:=Jcu (v:=vx) hn q'
   have hj:=(Jdi q').2
   have hjd:j < ds.length:=by rw[Jz rs];simpa using hj
   obtain⟨w',g1,fo,g2,h1,h2,h3,h4⟩:=Jch rs (j:=j) (x:=ds[j]) (by simp[hjd])
   subst h3
   have nda:a∉g1++fo++g2++fx:=by simp at nd ⊢;exact⟨nd.1.1,nd.1.2.1,nd.1.2.2.1,nd.1.2.2.2⟩
   refine k _ (a::(g1++fx++g2)) m (fun b o e hb=>?_) ⟨a,putK kvs ky vx,[a],_,rfl,⟨upd_same,rfl⟩,⟨?_,hnd⟩,?_,.inl rfl,rfl⟩ ?_ ?_
   ·rw[kp b (fun z=>hb (by simp[z]))];exact e
   ·rw[e1,Jc3,hks]
    have:=JdR q'
    rw[List.getElem?_map]at this;exact this
   ·have hs2:(putK kvs ky vx).map (·.2)=(kvs.map (·.2)).set j vx:=by rw[e1,JcT]
    rw[hs2]
    refine h4 _ x vx fx m (fun b hb=>kp b ?_) (rx.keep (fun b hb=>kp b ?_) m)
    ·intro z;subst z;exact nda (by simp at hb ⊢;rcases hb with z | z<;>simp[z])
    ·intro z;subst z;exact nda (by simp[hb])
   ·have p:(a::(g1++fx++g2)++fo).Perm (a::(g1++fo++g2)++fx):=by
     refine List.Perm.cons a ?_
     show ((g1++fx++g2)++fo).Perm ((g1++fo++g2)++fx)
     simp only[List.append_assoc]
     refine List.Perm.append_left g1 ?_
     have a1:(fx++(g2++fo)).Perm ((g2++fo)++fx):=List.perm_append_comm
     refine a1.trans ?_
     rw[List.append_assoc]
     exact List.perm_append_comm_assoc _ _ _
    exact(List.nodup_append.mp (p.nodup_iff.mpr (by simpa using nd))).1
   ·intro b hb
    simp at hb ⊢
    rcases hb with z | z | z | z<;>simp[z]
  | none =>
   have ed:putD ks ds ky x=.dct .m (ks++[ky]) (ds++[x]):=by unfold putD;rw[q]
   rw[ed]at k
   have q':=q
   rw[←hks]at q'
   have e1:=putK_new vx (Jdz q')
   have nda:a∉f++fx:=by simp at nd ⊢;exact⟨nd.1.1,nd.1.2⟩
   refine k _ (a::(f++fx)) m (fun b o e hb=>?_) ⟨a,putK kvs ky vx,[a],_,rfl,⟨upd_same,rfl⟩,⟨by rw[e1,List.map_append,hks];rfl,?_⟩,?_,.inl rfl,rfl⟩ (by simpa using nd) ?_
   ·rw[kp b (fun z=>hb (by simp[z]))];exact e
   ·refine List.nodup_append.mpr ⟨hnd,by simp,fun x hx y hy e=>?_⟩
    simp at hy;subst hy;subst e
    exact JeT q hx
   ·have hs2:(putK kvs ky vx).map (·.2)=kvs.map (·.2)++[vx]:=by rw[e1,List.map_append];rfl
    rw[hs2]
    refine UR (rs.keep (fun b hb=>kp b ?_) m) ⟨vx,[],fx,[],rfl,rx.keep (fun b hb=>kp b ?_) m,⟨rfl,rfl⟩,by simp⟩
    ·intro z;subst z;exact nda (by simp[hb])
    ·intro z;subst z;exact nda (by simp[hb])
   ·intro b hb
    simp at hb ⊢
    rcases hb with z | z | z<;>simp[z]
 ·cases h
def JaC (i:Nat) (cl:CL) (cb:CE):D→Env→Option Env:=fun x env=>match cl env with
 | .ok dF env1=>match cb env1 with
  | .ok y env2=>(stD dF.1 y x).map fun d'=>env2.set i (some (dF.2 d'))
  | _=>none
 | _=>none
theorem Ja9 {k:Nat} {W1 W2:WX} (hr:Room k X.A) (ho:SL X W1 i M1 o cl) (hb:SB X W2 M2 R2 b cb) (hi:djB [i] M2=true:=by decide)
  (ha:∀v,assign (.Subscript o b pos) X.env v=(do
   let ov ←holding [v] (eval o X.env)
   let iv ←holding [v,ov] (eval b X.env)
   standAt pos
   holding [v,ov,iv] (setItem ov iv v)
   release [v,ov,iv] []):=by intro _;rfl):SG X (M1++(M2++[i])) [] (.Subscript o b pos) (JaC i cl cb):=by
 obtain⟨t,p,q⟩:=ho.go
 obtain⟨t2,p2,q2⟩:=hb.go
 refine⟨gSub t t2 _,pg_sub p p2 (set_any hr) ha,fun C fs env σ H tf Q x vx fx hC G rx po=>?_⟩
 unfold JaC at po
 refine q C fs env σ H (fx++tf) _ hC G ?_
 cases e1:cl env with
 | err=>rw[e1]at po;exact po.elim
 | ex z env'=>rw[e1]at po;exact po.elim
 | ok dF env1 =>
  rw[e1]at po
  intro v' fs1 H1 d v g1 fp' g2 G1 s1 hd hv hf Fo
  refine q2 C fs1 env1 σ H1 (fx++tf) _ hC G1 ?_
  have po1:Jce C (M1++(M2++[i])) [] tf fs env σ H Q (match cb env1 with
   | .ok y env2=>(stD dF.1 y x).map fun d'=>env2.set i (some (dF.2 d'))
   | _=>none):=po
  cases e2:cb env1 with
  | err=>rw[e2]at po1;exact po1.elim
  | ex z env'=>rw[e2]at po1;exact po1.elim
  | ok y env2 =>
   rw[e2]at po1
   intro w fs2 H2 fw own G2 s2 rw' iw
   have ni:i∉M2:=Jaf hi i (by simp)
   have Fo2:=Fo.keep s2.m (fun a ha=>s2.h i ni a (by rw[hf];exact ha))
   have hd2:env2[i]?=some (some d):=by rw[s2.e i ni];exact hd
   have hf2:fs2.getD i []=g1++fp'++g2:=by rw[s2.f i ni];exact hf
   have po2:Jce C (M1++(M2++[i])) [] tf fs env σ H Q ((stD dF.1 y x).map fun d'=>env2.set i (some (dF.2 d'))):=po1
   cases e3:stD dF.1 y x with
   | none=>rw[e3]at po2;exact po2.elim
   | some d' =>
    rw[e3]at po2
    have G2':Good C fs2 env2 σ H2 (fx++tf):=G2.drop
    have rx2:Rep C H2 x vx fx:=(rx.keep (fun a ha=>s1.t a (by simp[ha])) s1.m).keep (fun a ha=>s2.t a (by simp[ha])) s2.m
    have inf:∀a∈fp',a∈fs2.getD i []:=fun a ha=>by rw[hf2];simp[ha]
    have ndp:(fp'++fx).Nodup:=by
     have nd:=G2'.nd
     refine List.nodup_append.mpr ⟨?_,(List.nodup_append.mp (List.nodup_append.mp nd).2.1).1,fun a ha b hb eab=>?_⟩
     ·have:=(List.nodup_append.mp nd).1
      have:=(Jal fs2 (G2'.lt hd2)).nodup_iff.mp this
      have:=(List.nodup_append.mp this).1
      rw[hf2]at this
      exact(List.nodup_append.mp (List.nodup_append.mp this).1).2.1
     ·subst eab;exact G2'.apartT (inf a ha) (by simp[hb])
    refine st_ok hC G2.fr Fo2.here rw' rx2 ndp e3 fun H3 fp3 m3 ch r3 nd3 sub3=>?_
    have tfk:∀a∈tf,H3 a=H2 a:=fun a ha=>by
     obtain⟨o,e,_⟩:=G2'.trk a (by simp[ha])
     rw[e];exact ch a o e fun hx=>G2'.apartT (inf a hx) (by simp[ha])
    have Gn:Good C (fs2.set i (g1++fp3++g2)) (env2.set i (some (dF.2 d'))) σ H3 tf:=by
     refine G2'.mut hd2 hv hf2 Fo2 m3 ch r3 ?_ ?_ ?_
     ·refine List.nodup_append.mpr ⟨nd3,(List.nodup_append.mp (List.nodup_append.mp G2'.nd).2.1).2.1,fun a ha b hb eab=>?_⟩
      subst eab
      rcases sub3 a ha with z | z
      ·exact G2'.apartT (inf a z) (by simp[hb])
      ·exact(List.nodup_append.mp (List.nodup_append.mp G2'.nd).2.1).2.2 a z a hb rfl
     ·intro a ha
      rcases List.mem_append.mp ha with z | z
      ·rcases sub3 a z with w | w
       ·exact .inl w
       ·exact .inr (.inl (by simp[w]))
      ·exact .inr (.inl (by simp[z]))
     ·intro a ha
      rw[tfk a ha];exact G2'.trk a (by simp[ha])
    have sn:Step [i] tf fs2 env2 H2 (fs2.set i (g1++fp3++g2)) (env2.set i (some (dF.2 d'))) H3:=Step.mut (d:=d) G2' hd2 hf2 m3 ch
    have w1:=s1.weak (M':=M1) (tf':=tf) (fun _ z=>z) fun x hx=>by simp[hx]
    have w2:=s2.weak (M':=M2) (tf':=tf) (fun _ z=>z) fun x hx=>by simp[hx]
    have:=(w1.trans w2).trans sn
    rw[List.append_assoc]at this
    exact po2 _ σ H3 Gn this.ss
end
end VS
namespace VS
open PySem L2 SeqAt
section
variable {X:Cx} {W:WX} {pos:Pos}
def cGet (i:Nat):CE:=fun env=>match env[i]? with
 | some (some d)=>if d.imm then .ok d env else .ok d (env.set i none)
 | _=>.err
theorem JQ (i:Nat) {x:Str} (hN:X.N[i]?=some x:=by rfl) (hv:Vis X.env.scope x:=by first | exact Or.inl rfl | exact Or.inr (Or.inl rfl) | exact Or.inr (Or.inr rfl)) (hd:(x == ("__debug__" : Str))=false:=by decide)
  (hcd:(x == ("__classdict__" : Str))=false:=by decide):SO X W [i] (.Name x pos) (cGet i):=by
 refine⟨tVar i,pe_var hN hv hd hcd,fun C fs env σ H tf Q hC G po=>?_⟩
 unfold cGet at po
 split at po
 ·rename_i d e1
  obtain⟨v,e2,r⟩:=G.rep i d e1
  split at po
  ·rename_i hi
   refine⟨v,e2,po v fs H [] (by simpa using G) .refl ?_⟩
   have:=r.imm hi
   first | exact this | exact this.1 | (subst this;exact r) | (rw[this]at r;exact r)
  ·refine⟨v,e2,po v (fs.set i []) H _ (G.mv e1) ⟨fun _ _=>rfl,fun j hj=>?_,fun j hj=>?_,fun _ _ _ _=>rfl,.refl H⟩ r⟩
   ·rw[Zl fs i j [] (G.lt e1),if_neg (by simpa using hj)]
   ·rw[List.getElem?_set,if_neg (by intro z;subst z;simp at hj)]
 ·exact po.elim
variable {M M1 M2 M3 V1 V2 V3 Rs R1 R2 R3:List Nat} {e a b c tg:Expr} {es:List Expr} {ca cb cc:CE} {cs:CA} {cr:Env→R (List AV)} {io:List Bool} {i j:Nat} {x y:Str}
theorem Jb1 {px py pt:Pos} {kt k2 pt2} (hc:X.calm=true) (hN:X.N.Nodup) (ha:SAO X W M [a,b] cs) (hi:X.N[i]?=some x:=by rfl) (hj:X.N[j]?=some y:=by rfl) (hij:i≠j:=by decide)
  (hx:X.env.scope.names.lookup x=some .local:=by rfl) (hy:X.env.scope.names.lookup y=some .local:=by rfl)
  (hw:swappedStores [.Tuple [.Name x px,.Name y py] kt pt] (.Tuple [a,b] k2 pt2) X.env=pure (some [x,y]):=by rfl)
  (hs:swapsWithSole [.Tuple [.Name x px,.Name y py] kt pt] (.Tuple [a,b] k2 pt2) pos.line X.env=pure false:=by rfl) :
  SS X W (M++([i]++[j])) ([i]++[j]) (.Assign [.Tuple [.Name x px,.Name y py] kt pt] (.Tuple [a,b] k2 pt2) pos) (sPar i j cs):=ss_par i j hc hN ha hi hj hij hx hy hw hs
theorem JC {pos':Pos} (hN:X.N.Nodup) (h:SO X W M e ca) (hi:X.N[i]?=some x:=by rfl) (hx:Loc X.env.scope x:=by first | exact .inl rfl | exact .inr rfl) (hs:swapsWith e (some (.Name x pos')) pos.line X.env=pure false:=by rfl) (hf:X.fn x=true∨X.env.scope.names.lookup x=some .local:=by first | exact .inl rfl | exact .inr rfl | assumption) :
  SS X W (M++[i]) [i] (.Assign [.Name x pos'] e pos) (sAsg ca (gSet i)):=ss_set i hN h hi hx hs hf
theorem JD (hr:SRI X W M2 R2 io es cr) (hN:X.N[i]?=some x:=by rfl) (hv:Vis X.env.scope x:=by first | exact Or.inl rfl | exact Or.inr (Or.inl rfl) | exact Or.inr (Or.inr rfl)) (hd:(x == ("__debug__" : Str))=false:=by decide)
  (hcd:(x == ("__classdict__" : Str))=false:=by decide) (hs:starEach (.Name x pos::es) X.env=(false,eval (.Name x pos) X.env)::starEach es X.env:=by rfl):SRI X W ([i]++M2) R2 (true::io) (.Name x pos::es) (aOw (cMv i) (some i) cr):=sri_io i hr hN hv hd hcd hs
end
end VS
namespace VS
open PySem L2 SeqAt
section
variable {α β:Type} (env:Env) (i j:Nat) (c ca cb cc:CE) (cs:CA) (ct:CT) (ta tb:CT) (d:D) (p q:D→D→Option D) (p1:D→Option D) (pl:List D→Option D) (s1 s2:CS) (g:D→Env→Option Env)
@[simp] theorem e_bind1 (a:α) (f:α→Env→R β):(R.ok a env).bind f=f a env:=(rfl)
@[simp] theorem e_bind2 (x:Exn) (f:α→Env→R β):(R.ex x env:R α).bind f=.ex x env:=(rfl)
@[simp] theorem e_bind3 (f:α→Env→R β):(R.err:R α).bind f=.err:=(rfl)
@[simp] theorem e_of1 (a:α):R.of (some a) env=.ok a env:=(rfl)
@[simp] theorem e_of2:R.of (none:Option α) env=.err:=(rfl)
@[simp] theorem e_var:cVar i env=match env[i]? with
 | some (some d)=>.ok d env
 | _=>.err:=(rfl)
@[simp] theorem e_mv:cMv i env=match env[i]? with
 | some (some d)=>.ok d (env.set i none)
 | _=>.err:=(rfl)
@[simp] theorem e_get:cGet i env=match env[i]? with
 | some (some d)=>if d.imm then .ok d env else .ok d (env.set i none)
 | _=>.err:=(rfl)
@[simp] theorem e_k:cK d env=.ok d env:=(rfl)
@[simp] theorem e_two:cTwo ca cb env=(ca env).bind fun x env=>(cb env).bind fun y env=>.ok (x,y) env:=(rfl)
@[simp] theorem e_2:c2 p ca cb env=(cTwo ca cb env).bind fun xy env=>R.of (p xy.1 xy.2) env:=(rfl)
@[simp] theorem e_1:c1 p1 ca env=(ca env).bind fun x env=>R.of (p1 x) env:=(rfl)
@[simp] theorem e_idx:cIdx ca cb env=c2 ixD ca cb env:=(rfl)
@[simp] theorem e_imm:cImm c env=(c env).bind fun d env=>if d.imm then .ok d env else .err:=(rfl)
@[simp] theorem e_nil:cNil env=.ok [] env:=(rfl)
@[simp] theorem e_cons:Jb c cs env=(c env).bind fun d env=>(cs env).bind fun ds env=>.ok (d::ds) env:=(rfl)
@[simp] theorem e_L:cL pl cs env=(cs env).bind fun ds env=>R.of (pl ds) env:=(rfl)
@[simp] theorem e_tup:cTup cs env=(cs env).bind fun ds env=>if ds.length≤sizeLine then .ok (.tup ds) env else .err:=(rfl)
@[simp] theorem Jiw:cLst cs env=(cs env).bind fun ds env=>if ds.length≤sizeLine then .ok (.lst .m ds) env else .err:=(rfl)
@[simp] theorem e_tt:cTt ca env=(ca env).bind fun d env=>R.of d.tt env:=(rfl)
@[simp] theorem e_tt1 (b:Bool):D.tt (.bl b)=some b:=(rfl)
@[simp] theorem e_tand:Qk ta tb env=(ta env).bind fun b env=>if b=true then tb env else .ok false env:=(rfl)
@[simp] theorem e_tor:tcOr ta tb env=(ta env).bind fun b env=>if b=true then .ok true env else tb env:=(rfl)
@[simp] theorem e_tnot:Yq ta env=(ta env).bind fun b env=>.ok (!b) env:=(rfl)
@[simp] theorem JgU:cAnd ca cb env=(ca env).bind fun d env=>match d with
 | .bl true=>cb env
 | .bl false=>.ok (.bl false) env
 | _=>.err:=(rfl)
@[simp] theorem JiC:cNot ca env=(ca env).bind fun d env=>match d with
 | .bl b=>.ok (.bl (!b)) env
 | _=>.err:=(rfl)
@[simp] theorem e_chain:Jbr p q ca cb cc env=(cTwo ca cb env).bind fun xy env=>match p xy.1 xy.2 with
 | some (.bl true)=>(cc env).bind fun z env=>R.of (q xy.2 z) env
 | some (.bl false)=>.ok (.bl false) env
 | _=>.err:=(rfl)
@[simp] theorem e_if:cIf ct ca cb env=(ct env).bind fun k env=>if k=true then ca env else cb env:=(rfl)
@[simp] theorem e_anil:aNil env=.ok [] env:=(rfl)
@[simp] theorem e_aro (cr:Env→R (List AV)):aRo ca cr env=(ca env).bind fun d env=>(cr env).bind fun as env=>.ok (.ro d::as) env:=(rfl)
@[simp] theorem e_aow (wb:Option Nat) (cr:Env→R (List AV)):aOw ca wb cr env=(ca env).bind fun d env=>(cr env).bind fun as env=>.ok (.ow d wb::as) env:=(rfl)
@[simp] theorem JeS (φ:List D→FR) (cr:Env→R (List AV)):Jo φ cr env=(cr env).bind fun avs env=>Ja1 avs env (φ (avs.map AV.d)):=(rfl)
@[simp] theorem e_end1 (avs:List AV) (r:D) (os:List D):Ja1 avs env (.ok r os)=if r.nol && nols os then (match Um avs os env with
  | some env'=>.ok r env'
  | none=>.err) else .err:=(rfl)
@[simp] theorem e_end2 (avs:List AV) (x:Exn) (os:List D):Ja1 avs env (.ex x os)=if nols os then (match Um avs os env with
  | some env'=>.ex x env'
  | none=>.err) else .err:=(rfl)
@[simp] theorem e_ro (d:D):AV.d (.ro d)=d.lend:=(rfl)
@[simp] theorem e_ow (d:D) (wb:Option Nat):AV.d (.ow d wb)=d:=(rfl)
@[simp] theorem e_pb0:Um [] [] env=some env:=(rfl)
@[simp] theorem e_pb1 (d:D) (as:List AV) (os:List D):Um (.ro d::as) os env=Um as os env:=by
 cases as<;>cases os<;>rfl
@[simp] theorem e_pb2 (d o:D) (as:List AV) (os:List D):Um (.ow d (some i)::as) (o::os) env=Um as os (env.set i (some o)):=(rfl)
@[simp] theorem e_pb3 (d o:D) (as:List AV) (os:List D):Um (.ow d none::as) (o::os) env=Um as os env:=(rfl)
@[simp] theorem e_snil:sNil env=.nx env:=(rfl)
@[simp] theorem Jhx:sSeq s1 s2 env=(s1 env).bind s2:=(rfl)
@[simp] theorem e_ob1 (f:CS):(O.nx env).bind f=f env:=(rfl)
@[simp] theorem e_ob2 (f:CS):(O.rt d env).bind f=.rt d env:=(rfl)
@[simp] theorem e_ob3 (f:CS):(O.bk env).bind f=.bk env:=(rfl)
@[simp] theorem e_ob4 (f:CS):(O.ct env).bind f=.ct env:=(rfl)
@[simp] theorem e_ob5 (x:Exn) (f:CS):(O.ex x env).bind f=.ex x env:=(rfl)
@[simp] theorem e_ob6 (f:CS):(O.err).bind f=.err:=(rfl)
@[simp] theorem e_expr:ZE c env=match c env with
 | .ok _ env=>.nx env
 | .ex x env=>.ex x env
 | .err=>.err:=(rfl)
@[simp] theorem e_ret:sRet c env=match c env with
 | .ok d env=>.rt d env
 | .ex x env=>.ex x env
 | .err=>.err:=(rfl)
@[simp] theorem Jca:sIf ct s1 s2 env=match ct env with
 | .ok k env=>if k=true then s1 env else s2 env
 | .ex x env=>.ex x env
 | .err=>.err:=(rfl)
@[simp] theorem e_gset:gSet i d env=some (env.set i (some d)):=(rfl)
@[simp] theorem e_asg:sAsg c g env=match c env with
 | .ok d env=>match g d env with
  | some env=>.nx env
  | none=>.err
 | .ex x env=>.ex x env
 | .err=>.err:=(rfl)
@[simp] theorem e_par:sPar i j cs env=match cs env with
 | .ok [d,e] env=>.nx ((env.set i (some d)).set j (some e))
 | .ok _ _=>.err
 | .ex x env=>.ex x env
 | .err=>.err:=(rfl)
@[simp] theorem e_imm1 (i:Int):(D.int i).imm=true:=(rfl)
@[simp] theorem e_imm2 (b:Bool):(D.bl b).imm=true:=(rfl)
@[simp] theorem e_imm3 (s:Str):(D.str s).imm=true:=(rfl)
@[simp] theorem e_imm4:D.non.imm=true:=(rfl)
@[simp] theorem e_imm5 (ds:List D):(D.tup ds).imm=imms ds:=(rfl)
@[simp] theorem e_imm6 (g:Fl) (ds:List D):(D.lst g ds).imm=((g == .l || g == .f) && imms ds):=(rfl)
@[simp] theorem e_imms0:imms []=true:=(rfl)
@[simp] theorem e_imms1 (ds:List D):imms (d::ds)=(d.imm && imms ds):=(rfl)
@[simp] theorem e_nol1 (i:Int):(D.int i).nol=true:=(rfl)
@[simp] theorem e_nol2 (b:Bool):(D.bl b).nol=true:=(rfl)
@[simp] theorem e_nol3 (s:Str):(D.str s).nol=true:=(rfl)
@[simp] theorem e_nol4:D.non.nol=true:=(rfl)
@[simp] theorem e_nol5 (ds:List D):(D.tup ds).nol=nols ds:=(rfl)
@[simp] theorem e_nol6 (ds:List D):(D.lst .m ds).nol=nols ds:=(rfl)
@[simp] theorem e_nols0:nols []=true:=(rfl)
@[simp] theorem e_nols1 (ds:List D):nols (d::ds)=(d.nol && nols ds):=(rfl)
@[simp] theorem e_lend1 (i:Int):(D.int i).lend=.int i:=(rfl)
@[simp] theorem e_lend2 (b:Bool):(D.bl b).lend=.bl b:=(rfl)
@[simp] theorem e_lend3 (s:Str):(D.str s).lend=.str s:=(rfl)
@[simp] theorem e_lend4:D.non.lend=.non:=(rfl)
@[simp] theorem e_lend5 (ds:List D):(D.tup ds).lend=.tup (lends ds):=(rfl)
@[simp] theorem e_lend6 (ds:List D):(D.lst .m ds).lend=.lst .l (lends ds):=(rfl)
@[simp] theorem e_lend7 (ds:List D):(D.lst .l ds).lend=.lst .l (lends ds):=(rfl)
@[simp] theorem e_lends0:lends []=[]:=(rfl)
@[simp] theorem e_lends1 (ds:List D):lends (d::ds)=d.lend::lends ds:=(rfl)
@[simp] theorem lends_ints:∀ns:List Int,lends (ns.map D.int)=ns.map D.int
 | []=>rfl
 | n::ns=>by simp[lends_ints ns]
@[simp] theorem imms_ints:∀ns:List Int,imms (ns.map D.int)=true
 | []=>rfl
 | n::ns=>by simp[imms_ints ns]
@[simp] theorem e_pI (cc:Int→Int→Bool) (g:Int→Int→Int) (i j:Int):pI cc g (.int i) (.int j)=if cc i j then some (.int (g i j)) else none:=(rfl)
@[simp] theorem e_pIB (g:Int→Int→Bool) (i j:Int):pIB g (.int i) (.int j)=some (.bl (g i j)):=(rfl)
@[simp] theorem e_neg (i:Int):pNeg (.int i)=some (.int (-i)):=(rfl)
@[simp] theorem e_eq (i j:Int):pEq (.int i) (.int j)=some (.bl (i == j)):=(rfl)
@[simp] theorem e_ne (i j:Int):pNe (.int i) (.int j)=some (.bl (!(i == j))):=(rfl)
@[simp] theorem e_abs (i:Int):pAbs [.int i]=some (.int (if i < 0 then -i else i)):=(rfl)
@[simp] theorem e_min2 (i j:Int):JgD [.int i,.int j]=some (.int (if j < i then j else i)):=(rfl)
@[simp] theorem e_int1 (i:Int):JbF [.int i]=some (.int i):=(rfl)
@[simp] theorem e_int2 (b:Bool):JbF [.bl b]=some (.int (if b then 1 else 0)):=(rfl)
@[simp] theorem e_len1 (g:Fl) (ds:List D):pLen [.lst g ds]=some (.int ds.length):=(rfl)
@[simp] theorem e_len2 (ds:List D):pLen [.tup ds]=some (.int ds.length):=(rfl)
@[simp] theorem e_ix1 (g:Fl) (ds:List D) (i:Int):ixD (.lst g ds) (.int i)=atI ds i:=(rfl)
@[simp] theorem e_ix2 (ds:List D) (i:Int):ixD (.tup ds) (.int i)=atI ds i:=(rfl)
theorem Ze {α:Type} {xs:List α} {k:Nat} (h:k < xs.length):atI xs (k:Int)=xs[k]?:=by
 unfold atI ixN
 rw[if_pos (by omega),if_pos (by omega)]
 simp
@[simp] theorem atI_0 {α:Type} (x:α) (xs:List α):atI (x::xs) 0=some x:=by
 have:=Ze (xs:=x::xs) (k:=0) (by simp);simpa using this
@[simp] theorem atI_1 {α:Type} (x y:α) (xs:List α):atI (x::y::xs) 1=some y:=by
 have:=Ze (xs:=x::y::xs) (k:=1) (by simp);simpa using this
@[simp] theorem atI_2 {α:Type} (x y z:α) (xs:List α):atI (x::y::z::xs) 2=some z:=by
 have:=Ze (xs:=x::y::z::xs) (k:=2) (by simp);simpa using this
@[simp] theorem atI_3 {α:Type} (x y z u:α) (xs:List α):atI (x::y::z::u::xs) 3=some u:=by
 have:=Ze (xs:=x::y::z::u::xs) (k:=3) (by simp);simpa using this
@[simp] theorem atI_4 {α:Type} (x y z u v:α) (xs:List α):atI (x::y::z::u::v::xs) 4=some v:=by
 have:=Ze (xs:=x::y::z::u::v::xs) (k:=4) (by simp);simpa using this
theorem UY {n:Nat} (h:n≤1000):n≤sizeLine:=Nat.le_of_lt (small1000 h)
@[simp] theorem sz_0:0≤sizeLine:=UY (by decide)
@[simp] theorem sz_1:1≤sizeLine:=UY (by decide)
@[simp] theorem sz_2:2≤sizeLine:=UY (by decide)
@[simp] theorem sz_3:3≤sizeLine:=UY (by decide)
@[simp] theorem sz_4:4≤sizeLine:=UY (by decide)
@[simp] theorem sz_5:5≤sizeLine:=UY (by decide)
@[simp] theorem sz_6:6≤sizeLine:=UY (by decide)
@[simp] theorem e_isi_i (i:Int):pIsi [.int i,.ty "int"]=some (.bl true):=(rfl)
@[simp] theorem e_isi_b (i:Int):pIsi [.int i,.ty "bool"]=some (.bl false):=(rfl)
@[simp] theorem m01a (c:Prop) [Decidable c]:-18446744073709551616 < (if c then (1:Int) else 0):=by split<;>omega
@[simp] theorem m01b (c:Prop) [Decidable c]:(if c then (1:Int) else 0) < 18446744073709551616:=by split<;>omega
@[simp] theorem m2a (x:Int):-18446744073709551616 < x % 40009+7:=by omega
@[simp] theorem m2b (x:Int):x % 40009+7 < 18446744073709551616:=by omega
end
end VS
namespace VS
open PySem L2 SeqAt
def tO (K:PySem.W.Frag) (mg:Str→Option Value) (W:WX) (M:List Nat) (c:CE):TE:=fun σ H Q=>∃C fs env tf,C.K=K∧C.mg=mg∧Good C fs env σ H tf∧Ut W C M tf fs env σ H Q (c env)
def tT (K:PySem.W.Frag) (mg:Str→Option Value) (W:WX) (M:List Nat) (c:CT):TT:=fun σ H Q=>∃C fs env tf,C.K=K∧C.mg=mg∧Good C fs env σ H tf∧JcV W C M tf fs env σ H Q (c env)
def tG (K:PySem.W.Frag) (mg:Str→Option Value) (M Vs:List Nat) (g:D→Env→Option Env):TG:=fun v σ H Q=>∃C fs env tf d fp,C.K=K∧C.mg=mg∧Good C fs env σ H (fp++tf)∧Rep C H d v fp∧Jce C M Vs tf fs env σ H Q (g d env)
section
variable {X:Cx} {W:WX} {M M1 M2 M3 M4 V1 V2 V3 Rs R1 R2 R3:List Nat} {e a b c tg:Expr} {es ifs:List Expr} {ca cb cc:CE} {cs src:CA} {ct:CT} {pos p:Pos} {g:D→Env→Option Env}
theorem SO.canon (h:SO X W M e ca):PE X e (tO X.K X.mg W M ca):=by
 obtain⟨t,p,q⟩:=h.go
 exact⟨fun pins s σ H Q I ⟨C,fs,env,tf,h1,h2,G,po⟩=>p.run pins s σ H Q I (q C fs env σ H tf Q ⟨h1,h2⟩ G po)⟩
theorem SG.canon (h:SG X M V1 tg g):PG X tg (tG X.K X.mg M V1 g):=by
 obtain⟨t,p,q⟩:=h.go
 exact⟨fun pins s σ H v u Q I r ⟨C,fs,env,tf,d,fp,h1,h2,G,rr,po⟩=>p.run pins s σ H v u Q I r (q C fs env σ H tf Q d v fp ⟨h1,h2⟩ G rr po)⟩
structure STs (X:Cx) (W:WX) (M:List Nat) (ifs:List Expr) (ct:CT):Prop where
 go:PTs X ifs (tT X.K X.mg W M ct)
def cYes:CT:=fun env=>.ok true env
theorem Uy:STs X W [] [] cYes :=
 ⟨⟨fun pins s σ H Q I ⟨C,fs,env,tf,h1,h2,G,po⟩=>pts_nil.run pins s σ H Q I (po fs H G .refl)⟩⟩
theorem Jck (h:ST X W M c ct):STs X W M [c] ct:=by
 obtain⟨t,p,q⟩:=h.go
 exact⟨⟨fun pins s σ H Q I ⟨C,fs,env,tf,h1,h2,G,po⟩=>(pts_one p).run pins s σ H Q I (q C fs env σ H tf Q ⟨h1,h2⟩ G po)⟩⟩
def Ur (env:Env):List Nat→Env
 | []=>env
 | v::vs=>(Ur env vs).set v none
def Jbg (fs:FPs):List Nat→FPs
 | []=>fs
 | v::vs=>(Jbg fs vs).set v []
def Qb (env1 env:Env):List Nat→Env
 | []=>env
 | v::vs=>(Qb env1 env vs).set v (env1.getD v none)
theorem JaO {σ:St} {i:Nat}:∀{vs:List Nat},(wipe σ vs)[i]?=if i∈vs then (σ[i]?).map (fun _=>none) else σ[i]?
 | []=>by simp[wipe]
 | v::vs=>by
  unfold wipe
  rw[List.getElem?_set]
  by_cases hv:v=i
  ·subst hv
   rw[if_pos rfl,wipe_length,if_pos (show v∈v::vs by simp)]
   by_cases hl:v < σ.length
   ·rw[if_pos hl];simp[hl]
   ·rw[if_neg hl,List.getElem?_eq_none (by omega)];rfl
  ·rw[if_neg hv,JaO (vs:=vs)]
   have:(i∈v::vs)↔i∈vs:=by simp[Ne.symm hv]
   simp only[this]
theorem Jcs {σ:Env} {i:Nat}:∀{vs:List Nat},(Ur σ vs)[i]?=if i∈vs then (σ[i]?).map (fun _=>none) else σ[i]?
 | []=>by simp[Ur]
 | v::vs=>by
  have hl:∀vs:List Nat,(Ur σ vs).length=σ.length:=fun vs=>by
   induction vs with
   | nil=>rfl
   | cons v vs ih=>unfold Ur;rw[List.length_set,ih]
  unfold Ur
  rw[List.getElem?_set]
  by_cases hv:v=i
  ·subst hv
   rw[if_pos rfl,hl,if_pos (show v∈v::vs by simp)]
   by_cases hl:v < σ.length
   ·rw[if_pos hl];simp[hl]
   ·rw[if_neg hl,List.getElem?_eq_none (by omega)];rfl
  ·rw[if_neg hv,Jcs (vs:=vs)]
   have:(i∈v::vs)↔i∈vs:=by simp[Ne.symm hv]
   simp only[this]
theorem Jeu {σ:FPs}:∀vs:List Nat,(Jbg σ vs).length=σ.length
 | []=>rfl
 | v::vs=>by unfold Jbg;rw[List.length_set,Jeu vs]
theorem JcQ {e1 σ:Env}:∀vs:List Nat,(Qb e1 σ vs).length=σ.length
 | []=>rfl
 | v::vs=>by unfold Qb;rw[List.length_set,JcQ vs]
theorem JcB {e1 σ:Env} {i:Nat}:∀{vs:List Nat},(Qb e1 σ vs)[i]?=if i∈vs then (σ[i]?).map (fun _=>e1.getD i none) else σ[i]?
 | []=>by simp[Qb]
 | v::vs=>by
  unfold Qb
  rw[List.getElem?_set]
  by_cases hv:v=i
  ·subst hv
   rw[if_pos rfl,JcQ,if_pos (show v∈v::vs by simp)]
   by_cases hl:v < σ.length
   ·rw[if_pos hl];simp[hl]
   ·rw[if_neg hl,List.getElem?_eq_none (by omega)];rfl
  ·rw[if_neg hv,JcB (vs:=vs)]
   have:(i∈v::vs)↔i∈vs:=by simp[Ne.symm hv]
   simp only[this]
theorem JaM {fs:FPs} {i:Nat}:∀{vs:List Nat},(Jbg fs vs).getD i []=if i∈vs then [] else fs.getD i []
 | []=>by simp[Jbg]
 | v::vs=>by
  unfold Jbg
  by_cases hv:v=i
  ·subst hv
   rw[if_pos (by simp),List.getD_eq_getElem?_getD,List.getElem?_set]
   rw[if_pos rfl]
   split<;>rfl
  ·rw[List.getD_eq_getElem?_getD,List.getElem?_set,if_neg hv,←List.getD_eq_getElem?_getD,JaM (vs:=vs)]
   have:(i∈v::vs)↔i∈vs:=by simp[Ne.symm hv]
   simp only[this]
theorem wipe_eq {σ3 σ:St} {vs:List Nat} (hl:σ3.length=σ.length) (h:∀i,i∉vs→σ3[i]?=(wipe σ vs)[i]?):wipe σ3 vs=wipe σ vs:=by
 refine List.ext_getElem? fun i=>?_
 by_cases hi:i∈vs
 ·rw[JaO,JaO,if_pos hi,if_pos hi]
  by_cases h1:i < σ.length
  ·simp[h1,hl]
  ·rw[List.getElem?_eq_none (by omega),List.getElem?_eq_none (by omega)]
 ·have:=h i hi
  rw[JaO,if_neg hi,this]
variable {pins:List (Addr × Obj)} {σ σ':St} {H H1 H2 H':Hp} {s:Shared} {C C':Ctx} {fs fs1 fs2:FPs} {env env1 env2:Env} {tf tf' own:List Addr}
theorem Good.sig (G:Good C fs env σ H tf) (hl:σ'.length=σ.length) (h:∀(i:Nat) (d:D),env[i]?=some (some d)→σ'[i]?=σ[i]?):Good C fs env σ' H tf :=
 ⟨by rw[hl];exact G.le,by rw[hl];exact G.lf,fun i d e=>by rw[h i d e];exact G.rep i d e,G.nd,G.own,G.trk,G.fr,G.lk⟩
theorem Good.wipeK (G:Good C fs env σ H tf):∀vs:List Nat,Good C (Jbg fs vs) (Ur env vs) σ H tf
 | []=>G
 | v::vs=>(G.wipeK vs).kill v
theorem Good.wipe (G:Good C fs env σ H tf) (vs:List Nat):Good C (Jbg fs vs) (Ur env vs) (wipe σ vs) H tf :=
 (G.wipeK vs).sig (wipe_length σ vs) fun i d e=>by
  rw[Jcs]at e
  by_cases hi:i∈vs
  ·rw[if_pos hi]at e
   cases h:env[i]?<;>rw[h]at e<;>simp at e
  ·rw[JaO,if_neg hi]
theorem Step.wipe:∀vs:List Nat,Step vs tf fs env H (Jbg fs vs) (Ur env vs) H:=fun vs =>
 ⟨fun _ _=>rfl,fun i hi=>by rw[JaM,if_neg hi],fun i hi=>by rw[Jcs,if_neg hi],fun _ _ _ _=>rfl,.refl H⟩
theorem Good.back {vs:List Nat} (G:Good C fs env (L2.wipe σ vs) H tf) (hr:∀i,i∈vs→∀d,env1[i]?=some (some d)→∃v,σ[i]?=some (some v)∧Rep C H d v []):Good C (Jbg fs vs) (Qb env1 env vs) σ H tf:=by
 have Gw:=G.wipeK vs
 refine⟨?_,?_,fun i d e=>?_,Gw.nd,Gw.own,Gw.trk,Gw.fr,Gw.lk⟩
 ·rw[JcQ,G.le,wipe_length]
 ·rw[Jeu,G.lf,wipe_length]
 ·rw[JcB]at e
  by_cases hi:i∈vs
  ·rw[if_pos hi]at e
   obtain⟨x,_,e2⟩:=Option.map_eq_some_iff.mp e
   have e3:env1[i]?=some (some d):=by
    rw[List.getD_eq_getElem?_getD]at e2
    cases h:env1[i]? with
    | none=>rw[h]at e2;cases e2
    | some y=>rw[h]at e2;simp at e2;rw[e2]
   obtain⟨v,h1,h2⟩:=hr i hi d e3
   exact⟨v,h1,by rw[JaM,if_pos hi];exact h2⟩
  ·rw[if_neg hi]at e
   obtain⟨v,h1,h2⟩:=G.rep i d e
   rw[JaO,if_neg hi]at h1
   exact⟨v,h1,by rw[JaM,if_neg hi];exact h2⟩
theorem JdB {q:Addr} {o o':HO} (h:H q=some o) (mu:Mutb o):Mono H (upd H q o'):=Mono.upd h mu
theorem Good.updT {q:Addr} {o o':HO} (G:Good C fs env σ H (q::tf)) (h:H q=some o) (mu:Mutb o) (mu':Mutb o'):Good C fs env σ (upd H q o') (q::tf):=by
 have hn:∀i,q∉fs.getD i []:=fun i hi=>G.apartT hi (by simp)
 refine⟨G.le,G.lf,fun i d e=>?_,G.nd,G.own,fun a ha=>?_,fun a o2 e na=>?_,fun a ha=>?_⟩
 ·obtain⟨v,h1,h2⟩:=G.rep i d e
  exact⟨v,h1,h2.keep (fun a ha=>upd_ne fun z=>hn i (z ▸ ha)) (JdB h mu)⟩
 ·by_cases hq:a=q
  ·subst hq;exact⟨o',upd_same,mu'⟩
  ·obtain⟨o2,h1,h2⟩:=G.trk a ha;exact⟨o2,by rw[upd_ne hq];exact h1,h2⟩
 ·have hq:a≠q:=fun z=>by
   subst z
   rcases G.own a (by simp) with z | z
   ·exact na z
   ·rw[z]at e;cases e
  rw[upd_ne hq];exact G.fr a o2 e na
 ·obtain⟨ob,u,e⟩:=G.lk a ha
  have hq:a≠q:=fun z=>by subst z;rw[h]at e;cases e;exact mu
  exact⟨ob,u,by rw[upd_ne hq];exact e⟩
theorem Step.updT {q:Addr} {o o':HO} (G:Good C fs env σ H (q::tf)) (h:H q=some o) (mu:Mutb o):Step [] tf fs env H fs env (upd H q o'):=by
 have nd:=(List.nodup_append.mp G.nd).2.1
 refine⟨fun a ha=>upd_ne fun z=>?_,fun _ _=>rfl,fun _ _=>rfl,fun i _ a ha=>upd_ne fun z=>G.apartT (z ▸ ha) (by simp),JdB h mu⟩
 subst z
 exact(List.nodup_cons.mp nd).1 ha
def QP (vs:List Nat) (g:D→Env→Option Env) (ct:CT) (ce:CE):List D→Env→Option (List D × Env)
 | [],env=>some ([],env)
 | d::ds,env=>match g d env with
  | none=>none
  | some env1=>if env1.length=env.length then (match ct env1 with
   | .ok true env2=>(match ce env2 with
    | .ok y env3=>(QP vs g ct ce ds (Ur env3 vs)).map fun r=>(y::r.1,r.2)
    | _=>none)
   | .ok false env2=>QP vs g ct ce ds (Ur env2 vs)
   | _=>none) else none
def ZX (env:Env) (vs:List Nat):Bool:=vs.all fun i=>match env[i]? with
 | some (some d)=>d.imm
 | _=>true
def cLc (src:CA) (vs:List Nat) (g:D→Env→Option Env) (ct:CT) (ce:CE):CE:=fun env=>(src env).bind fun ds env1 =>
 if ZX env1 vs=true∧ds.length≤sizeLine then (match QP vs g ct ce ds (Ur env1 vs) with
  | some r=>.ok (.lst .m r.1) (Qb env1 r.2 vs)
  | none=>.err) else .err
abbrev W0:WX:=fun _ _ _ _=>False
theorem Jix {ce:CE} {vs:List Nat} {t:TI} (q:∀C fs env σ H tf Q,C.At X→Good C fs env σ H tf→Jd6 W C M1 R1 tf fs env σ H Q (src env)→t σ H Q) (hd:djB R1 (vs++(M2++(M3++M4)))=true) (hV:(V2.all fun i=>vs.contains i)=true) :
  ∀C fs env σ H tf Q,C.At X→Good C fs env σ H tf→Ut W C (M1++(vs++(M2++(M3++M4)))) tf fs env σ H Q (cLc src vs g ct ce env)→tLc t (tG X.K X.mg M2 V2 g) (tT X.K X.mg W0 M3 ct) (tO X.K X.mg W0 M4 ce) vs σ H Q:=by
 intro C fs env σ H tf Q hC G po
 show t σ H fun J H1=>_
 refine q C fs env σ H tf _ hC G ?_
 unfold cLc at po
 cases e1:src env with
 | err=>rw[e1]at po;exact po
 | ex x env'=>rw[e1]at po;exact fun cv dd fs' H' G' s=>po cv dd fs' H' G' (s.weak ZG fun _ z=>z)
 | ok ds env1 =>
  rw[e1]at po
  intro J fs1 H1 fp own1 G1 s1 src1 i1 Dd hD
  have po1:Ut W C (M1++(vs++(M2++(M3++M4)))) tf fs env σ H Q (if ZX env1 vs=true∧ds.length≤sizeLine then (match QP vs g ct ce ds (Ur env1 vs) with
   | some r=>.ok (.lst .m r.1) (Qb env1 r.2 vs)
   | none=>.err) else .err):=po
  by_cases hcl:ZX env1 vs=true∧ds.length≤sizeLine
  case neg=>rw[if_neg hcl]at po1;exact po1.elim
  rw[if_pos hcl]at po1
  cases el:QP vs g ct ce ds (Ur env1 vs) with
  | none=>rw[el]at po1;exact po1.elim
  | some r =>
   rw[el]at po1
   obtain⟨all,envF⟩:=r
   have po2:=Ut.step s1 po1
   have dj:=Jaf hd
   have le:=Le.new (o:=.lst []) hD
   have hb:∀i∈vs,∀d,env1[i]?=some (some d)→∃v,σ[i]?=some (some v)∧Rep C H1 d v []:=fun i hi d e=>by
    obtain⟨v,h1,h2⟩:=G1.rep i d e
    have:=(List.all_eq_true.mp hcl.1) i hi
    rw[e]at this
    have z:=h2.imm this
    rw[z]at h2
    exact⟨v,h1,h2⟩
   have sub:∀x∈own1++tf,x∈Dd::(own1++tf):=fun x hx=>List.mem_cons_of_mem _ hx
   refine lc_it (n:=ds.length) src1.walk (fun i H'=>∃fs' env' acc fpa ys ys',Good C fs' env' (wipe σ vs) H' (Dd::(fpa++(own1++tf)))∧H' Dd=some (.lst acc)∧Reps C H' ys acc fpa∧acc.length≤i∧Step (vs++(M2++(M3++M4))) (own1++tf) fs1 env1 H1 fs' env' H'∧QP vs g ct ce (ds.drop i) env'=some (ys',envF)∧all=ys++ys')
    ⟨Jbg fs1 vs,Ur env1 vs,[],[],[],all,(G1.new (o:=.lst []) hD trivial).wipe vs,upd_same,⟨rfl,rfl⟩,Nat.le_refl _,?_,by simpa using el,rfl⟩ ?_ ?_ ?_
   ·have:=(Step.grow (M:=[]) G1 le).trans (Step.wipe (fs:=fs1) (env:=env1) (tf:=own1++tf) (H:=upd H1 Dd (.lst [])) vs)
    exact this.weak (fun i hi=>List.mem_append_left _ (by simpa using hi)) fun _ z=>z
   ·rintro i H' hi ⟨fs',env',acc,fpa,ys,ys',G',hD',rs,hl,s',_,_⟩
    exact⟨G'.fr,s'.m,i1.keep s' dj⟩
   ·rintro i x H' H2 hi ⟨fs',env',acc,fpa,ys,ys',G',hD',rs,hl,s',hrun,hall⟩ ⟨le2,d,hd',rd⟩
    have hdrop:ds.drop i=d::ds.drop (i+1):=by
     rw[List.drop_eq_getElem_cons hi]
     obtain⟨_,h⟩:=List.getElem?_eq_some_iff.mp hd'
     rw[h]
    rw[hdrop]at hrun
    unfold QP at hrun
    have G2:=G'.le' le2
    have sA:=s'.trans (Step.grow (M:=[]) (G'.sub (tf':=own1++tf) ((List.sublist_append_right _ _).trans (List.sublist_cons_self _ _))) le2)
    refine⟨C,fs',env',Dd::(fpa++(own1++tf)),d,[],hC.1,hC.2,G2,rd,?_⟩
    cases eg:g d env' with
    | none=>rw[eg]at hrun;cases hrun
    | some e2 =>
     rw[eg]at hrun
     simp only at hrun
     by_cases hlen:e2.length=env'.length
     case neg=>rw[if_neg hlen]at hrun;cases hrun
     rw[if_pos hlen]at hrun
     intro fs3 σ3 H3 G3 s3
     have hw:wipe σ3 vs=wipe σ vs:=by
      refine wipe_eq ?_ fun j hj=>s3.v j fun hj2=>hj ?_
      ·rw[←G3.le,hlen,G2.le,wipe_length]
      ·have:=(List.all_eq_true.mp hV) j hj2
       simpa using this
     refine⟨hw,C,fs3,e2,Dd::(fpa++(own1++tf)),hC.1,hC.2,G3,?_⟩
     have sB:=sA.trans (s3.s.weak (fun _ z=>z) (tf':=own1++tf) fun y hy=>List.mem_cons_of_mem _ (List.mem_append_right _ hy))
     have fin:∀{fs5:FPs} {e5:Env} {H5:Hp} {acc' fpa' ys1 ys2},Good C fs5 e5 σ3 H5 (Dd::(fpa'++(own1++tf)))→H5 Dd=some (.lst acc')→Reps C H5 ys1 acc' fpa'→acc'.length≤i+1→Step (M3++M4) (own1++tf) fs3 e2 H3 fs5 e5 H5→QP vs g ct ce (ds.drop (i+1)) (Ur e5 vs)=some (ys2,envF)→all=ys1++ys2 →
       ∃fs' env' acc fpa ys ys',Good C fs' env' (wipe σ vs) H5 (Dd::(fpa++(own1++tf)))∧H5 Dd=some (.lst acc)∧Reps C H5 ys acc fpa∧acc.length≤i+1∧Step (vs++(M2++(M3++M4))) (own1++tf) fs1 env1 H1 fs' env' H5∧QP vs g ct ce (ds.drop (i+1)) env'=some (ys',envF)∧all=ys++ys':=fun {fs5 e5 H5 acc' fpa' ys1 ys2} G5 h5 r5 l5 s5 h6 h7=>by
      have Gw:=G5.wipe vs
      rw[hw]at Gw
      refine⟨_,_,acc',fpa',ys1,ys2,Gw,h5,r5,l5,?_,h6,h7⟩
      have:=(sB.trans s5).trans (Step.wipe (fs:=fs5) (env:=e5) (tf:=own1++tf) (H:=H5) vs)
      refine this.weak (fun j hj=>?_) fun _ z=>z
      simp only[List.mem_append,List.not_mem_nil,or_false]at hj ⊢
      rcases hj with ((h | h) | h) | h
      ·exact h
      ·exact .inr (.inl h)
      ·exact .inr (.inr h)
      ·exact .inl h
     have r3:Reps C H3 ys acc fpa:=(rs.le le2).keep (fun a ha=>s3.s.t a (by simp[ha])) s3.s.m
     have hD3:H3 Dd=some (.lst acc):=by rw[s3.s.t Dd (by simp)];exact le2 _ _ hD'
     cases et:ct e2 with
     | err=>rw[et]at hrun;cases hrun
     | ex x e3=>rw[et]at hrun;cases hrun
     | ok b e3 =>
      rw[et]at hrun
      intro fs4 H4 G4 s4
      have r4:Reps C H4 ys acc fpa:=r3.keep (fun a ha=>s4.t a (by simp[ha])) s4.m
      have hD4:H4 Dd=some (.lst acc):=by rw[s4.t Dd (by simp)];exact hD3
      have s4':=s4.weak (fun _ z=>z) (tf':=own1++tf) fun y hy=>List.mem_cons_of_mem _ (List.mem_append_right _ hy)
      cases b with
      | false =>
       rw[if_neg (by simp)]
       exact fin G4 hD4 r4 (by omega) (s4'.weak ZG fun _ z=>z) hrun hall
      | true =>
       rw[if_pos rfl]
       refine⟨C,fs4,e3,Dd::(fpa++(own1++tf)),hC.1,hC.2,G4,?_⟩
       simp only at hrun
       cases ee:ce e3 with
       | err=>rw[ee]at hrun;cases hrun
       | ex x e4=>rw[ee]at hrun;cases hrun
       | ok y e4 =>
        rw[ee]at hrun
        obtain⟨⟨zs,eF⟩,h1,h2⟩:=Option.map_eq_some_iff.mp hrun
        cases h2
        intro v fs5 H5 fp5 G5 s5 r5
        have hD5:H5 Dd=some (.lst acc):=by rw[s5.t Dd (by simp)];exact hD4
        have ra:Reps C H5 ys acc fpa:=r4.keep (fun a ha=>s5.t a (by simp[ha])) s5.m
        have pm:(Dd::((fpa++fp5)++(own1++tf))).Perm (fp5++(Dd::(fpa++(own1++tf)))):=by
         refine List.Perm.trans (List.Perm.cons _ ?_) (List.perm_middle.symm)
         rw[List.append_assoc]
         exact List.perm_append_comm_assoc _ _ _
        have G6:=G5.perm pm
        have nd6:=(List.nodup_append.mp G6.nd).2.1
        have hnot:Dd∉fpa++fp5:=fun z=>(List.nodup_cons.mp nd6).1 (List.mem_append_left _ z)
        refine⟨acc,hD5,by have:=hcl.2;omega,?_⟩
        have mo:=JdB (o':=.lst (acc++[v])) hD5 trivial
        have kp:∀a∈fpa++fp5,(upd H5 Dd (.lst (acc++[v]))) a=H5 a:=fun a ha=>upd_ne fun z=>hnot (z ▸ ha)
        have G7:=G6.updT (o':=.lst (acc++[v])) hD5 trivial trivial
        refine fin (ys1:=ys++[y]) (ys2:=zs) G7 upd_same (UR (ra.keep (fun a ha=>kp a (List.mem_append_left _ ha)) mo) ⟨v,[],fp5,[],rfl,r5.keep (fun a ha=>kp a (List.mem_append_right _ ha)) mo,⟨rfl,rfl⟩,by simp⟩) (by simp;omega) ?_ h1 (by rw[hall];simp)
        have s5':=s5.weak (fun _ z=>z) (tf':=own1++tf) fun y hy=>List.mem_cons_of_mem _ (List.mem_append_right _ hy)
        have s6:=Step.updT (o':=.lst (acc++[v])) G6 hD5 trivial
        have s6':=s6.weak (fun _ z=>z) (tf':=own1++tf) fun y hy=>List.mem_append_right _ hy
        have:=(s4'.trans s5').trans s6'
        simpa using this
   ·rintro H' ⟨fs',env',acc,fpa,ys,ys',G',hD',rs,hl,s',hrun,hall⟩
    rw[List.drop_length]at hrun
    unfold QP at hrun
    cases hrun
    rw[List.append_nil]at hall
    subst hall
    have Gb:=G'.back (env1:=env1) fun i hi d e=>by
     obtain⟨v,h1,h2⟩:=hb i hi d e
     exact⟨v,h1,h2.keep (fun _ z=>nomatch z) s'.m⟩
    refine po2 (.ref Dd) _ H' (Dd::fpa) (Gb.sub ?_) ?_ ⟨Dd,acc,[Dd],fpa,rfl,⟨hD',rfl⟩,rs,.inl rfl,rfl⟩
    ·refine List.Sublist.cons₂ _ ?_
     exact(List.Sublist.refl fpa).append (List.sublist_append_right _ _)
    ·have sb:Step vs (own1++tf) fs' envF H' (Jbg fs' vs) (Qb env1 envF vs) H' :=
      ⟨fun _ _=>rfl,fun i hi=>by rw[JaM,if_neg hi],fun i hi=>by rw[JcB,if_neg hi],fun _ _ _ _=>rfl,.refl H'⟩
     refine (s'.trans sb).weak (fun j hj=>?_) fun y hy=>List.mem_append_right _ hy
     simp only[List.mem_append]at hj ⊢
     rcases hj with (h | h) | h
     ·exact .inl h
     ·exact .inr h
     ·exact .inl h
theorem Qx {scope:Scope} {own:List (Str × Nat)} (vs:List Nat) {iter elt:Expr} {ce:CE} (hc:X.calm=true) (hN:X.N.Nodup) (hi:SI X W M1 R1 tg iter src) (ok:BlkOk X.N X.env.scope scope own)
  (hg:∀(s:Shared) (H:Hp) (B:Addr) (cl:List (Str × Addr)) (fp:List Addr),SG (X.blk s H scope (compEnvC scope cl B X.env) fp) M2 V2 tg g)
  (ht:∀(s:Shared) (H:Hp) (B:Addr) (cl:List (Str × Addr)) (fp:List Addr),STs (X.blk s H scope (compEnvC scope cl B X.env) fp) W0 M3 ifs ct)
  (he:∀(s:Shared) (H:Hp) (B:Addr) (cl:List (Str × Addr)) (fp:List Addr),SO (X.blk s H scope (compEnvC scope cl B X.env) fp) W0 M4 elt ce)
  (hvs:own.map (·.2)=vs) (hd:djB R1 (vs++(M2++(M3++M4)))=true) (hV:(V2.all fun i=>vs.contains i)=true) (hs:∀x,foldedSetIterable iter X.env x=pure x) :
  SO X W (M1++(vs++(M2++(M3++M4)))) (.ListComp elt [⟨tg,iter,ifs,0⟩] scope pos) (cLc src vs g ct ce):=by
 subst hvs
 obtain⟨t,p,q⟩:=hi.go
 exact⟨tLc t (tG X.K X.mg M2 V2 g) (tT X.K X.mg W0 M3 ct) (tO X.K X.mg W0 M4 ce) (own.map (·.2)),pe_lc (own:=own) hc hN p ok (fun s H B cl fp=>(hg s H B cl fp).canon) (fun s H B cl fp=>(ht s H B cl fp).go) (fun s H B cl fp=>(he s H B cl fp).canon) hs,Jix q hd hV⟩
theorem JdH {scope:Scope} {own:List (Str × Nat)} (vs:List Nat) {i:Nat} {y:Str} {py spos:Pos} {iter elt:Expr} {ce:CE} (hc:X.calm=true) (hN:X.N.Nodup) (hi:SI X W M1 R1 tg iter src) (ok:BlkOk X.N X.env.scope scope own)
  (hg:∀(s:Shared) (H:Hp) (B:Addr) (cl:List (Str × Addr)) (fp:List Addr),SG (X.blk s H scope (compEnvC scope cl B X.env) fp) M2 V2 tg g)
  (ht:∀(s:Shared) (H:Hp) (B:Addr) (cl:List (Str × Addr)) (fp:List Addr),STs (X.blk s H scope (compEnvC scope cl B X.env) fp) W0 M3 ifs ct)
  (he:∀(s:Shared) (H:Hp) (B:Addr) (cl:List (Str × Addr)) (fp:List Addr),SO (X.blk s H scope (compEnvC scope cl B X.env) fp) W0 M4 elt ce)
  (hvs:own.map (·.2)=vs) (hd:djB R1 (vs++(M2++(M3++M4)))=true) (hV:(V2.all fun i=>vs.contains i)=true) (hs:∀x,foldedSetIterable iter X.env x=pure x)
  (hy:X.N[i]?=some y) (hyl:X.env.scope.names.lookup y=some .local) (hsw:swapsWith (.ListComp elt [⟨tg,iter,ifs,0⟩] scope pos) (some (.Name y py)) spos.line X.env=pure true) :
  SS X W ((M1++(vs++(M2++(M3++M4))))++[i]) [i] (.Assign [.Name y py] (.ListComp elt [⟨tg,iter,ifs,0⟩] scope pos) spos) (sAsg (cLc src vs g ct ce) (gSet i)):=by
 subst hvs
 obtain⟨t,p,q⟩:=hi.go
 refine⟨tAsg (tLc t (tG X.K X.mg M2 V2 g) (tT X.K X.mg W0 M3 ct) (tO X.K X.mg W0 M4 ce) (own.map (·.2))) (gName i),ps_setLc (own:=own) hc hN hy hyl hsw p ok (fun s H B cl fp=>(hg s H B cl fp).canon) (fun s H B cl fp=>(ht s H B cl fp).go) (fun s H B cl fp=>(he s H B cl fp).canon) hs,fun C fs env σ H tf E hC G po=>?_⟩
 exact Jgc (gd:=gSet i) (M2:=[i]) (V2:=[i]) hC G (Jix q hd hV) (fun C fs env σ H tf Q d v fp hC G r po=>po _ _ _ (G.put r) (StepS.put G)) po
end
end VS
namespace VS
open PySem L2 SeqAt
section
variable {X:Cx} {W:WX} {M M1 M2 M3 M4 V1 V2 V3 Rs R1 R2 R3:List Nat} {e a b c tg:Expr} {es ifs:List Expr} {ca cb cc:CE} {cs src:CA} {ct:CT} {pos p:Pos} {g:D→Env→Option Env}
variable {pins:List (Addr × Obj)} {σ σ':St} {H H1 H2 H':Hp} {s:Shared} {C C':Ctx}
theorem JaD.lst {ds:List D} {vs:List V} {f:List Addr} {Q:VK} (k:JaD C H (.lst .m ds) Q) (r:Reps C H ds vs f) (hi:imms ds=true) {l:Addr} (hl:H l=none):Q (.ref l) (upd H l (.lst vs)):=by
 have e:=r.imm hi
 subst e
 have le:=Le.new (o:=.lst vs) hl
 exact k (.ref l) _ [l] le ⟨l,vs,[l],[],rfl,⟨upd_same,rfl⟩,r.le le,.inl rfl,rfl⟩ (by simp) fun a ha=>by simp at ha;subst ha;exact hl
theorem JaD.tup {ds:List D} {vs:List V} {f:List Addr} {Q:VK} (k:JaD C H (.tup ds) Q) (r:Reps C H ds vs f) (hi:imms ds=true) {l:Addr} (hl:H l=none):Q (.ref l) (upd H l (.tup vs)):=by
 have e:=r.imm hi
 subst e
 have le:=Le.new (o:=.tup vs) hl
 exact k (.ref l) _ [] le ⟨l,vs,rfl,SqT.of upd_same,r.le le⟩ .nil fun _ z=>nomatch z
theorem Jbj:∀{ds es:List D},imms (ds++es)=(imms ds && imms es)
 | [],es=>by simp[imms]
 | d::ds,es=>by rw[List.cons_append,imms,imms,Jbj,Bool.and_assoc]
def JfP:List D→Option D
 | [.lst _ ds]=>if imms ds then some (.lst .m ds) else none
 | [.tup ds]=>if imms ds then some (.lst .m ds) else none
 | _=>none
theorem od_list:ODL X (.type "list") JfP:=by
 refine ODL.of call_list_of fun xs H Q ⟨C,ds,fx,d,hC,hF,rs,e,k⟩=>?_
 unfold JfP at e
 split at e
 ·rename_i g zs
  split at e<;>cases e
  rename_i hi
  obtain⟨v,rfl,r⟩:=Zn rs
  obtain⟨a,vs,f,rfl,q,rz⟩:=JF hC hF r
  exact⟨a,vs,rfl,.inl q,fun l hl=>k.lst rz hi hl⟩
 ·rename_i zs
  split at e<;>cases e
  rename_i hi
  obtain⟨v,rfl,r⟩:=Zn rs
  obtain⟨a,vs,rfl,q,rz⟩:=Yg hC r
  exact⟨a,vs,rfl,.inr q,fun l hl=>k.lst rz hi hl⟩
 ·cases e
def JaL:List D→Option D
 | [.lst _ ds]=>if imms ds then some (.tup ds) else none
 | [.tup ds]=>if imms ds then some (.tup ds) else none
 | _=>none
theorem Jcj:ODL X (.type "tuple") JaL:=by
 refine ODL.of call_tuple_of fun xs H Q ⟨C,ds,fx,d,hC,hF,rs,e,k⟩=>?_
 unfold JaL at e
 split at e
 ·rename_i g zs
  split at e<;>cases e
  rename_i hi
  obtain⟨v,rfl,r⟩:=Zn rs
  obtain⟨a,vs,f,rfl,q,rz⟩:=JF hC hF r
  exact⟨a,vs,rfl,.inl ⟨q,fun l hl=>k.tup rz hi hl⟩⟩
 ·rename_i zs
  split at e<;>cases e
  rename_i hi
  obtain⟨v,rfl,r⟩:=Zn rs
  obtain⟨a,vs,rfl,q,rz⟩:=Yg hC r
  have ez:=rz.imm hi
  subst ez
  exact⟨a,vs,rfl,.inr ⟨q,k.here ⟨a,vs,rfl,by rw[hC.1];exact q,rz⟩⟩⟩
 ·cases e
theorem add_meets (l:Addr) (items:Array Value) (n:Nat) (b:Addr) (items2:Array Value) (n2:Nat) (sl sl2:Array (Option Value)) (hc0:items.size+items2.size≤sizeLine) :
  Meets (Builtin.«list.__add__» ⟨[.ref l,.ref b],[]⟩) (fun _ R s=>s.heap.get? l=some { cls:=.type "list", dict:=none,data:=.seq items n,slots:=sl }∧s.heap.get? b=some { cls:=.type "list", dict:=none,data:=.seq items2 n2,slots:=sl2 }∧R (.ok (.ret (Value.ref s.heap.objs.size))) { s with heap:=s.heap.push { cls:=Value.type "list", data:=Data.seq (items++items2) },toks:=s.toks }) :=
 .of_wp fun prog w A R s h=>by obtain⟨hp,g,d,tk,os⟩:=s;obtain⟨hl,hb,h⟩:=h;have f3:=PySem.AutoSeq1.sub_list_list;wp_walk using PySem.AutoSeq1.wpAny_loadPart' hl,PySem.AutoSeq1.wpAny_loadPart' hb;exact⟨_,rfl,h⟩
theorem add_listP {prog:Program} {w:World} {A:Around} {E:Value→Shared→Prop} {s:Shared} {l b:Addr} {items items2:Array Value} {Q:Value→Shared→Prop} (hl:PlainL s.heap l items) (hb:PlainL s.heap b items2)
  (h:Q (.ref s.heap.objs.size) { s with heap:=s.heap.push { cls:=.type "list", data:=.seq (items++items2) } }) (hsz:items.size+items2.size≤sizeLine):wpAny (model prog w) A (binaryOp .Add (.ref l) (.ref b)) Q E s:=by
 obtain⟨⟨c1,d1,da1,sl1⟩,n1,e1,a1,a2,a3⟩:=hl
 obtain⟨⟨c2,d2,da2,sl2⟩,n2,e2,b1,b2,b3⟩:=hb
 simp only at a1 a2 a3 b1 b2 b3
 subst a1 a2 a3 b1 b2 b3
 exact PySem.concat_meets ⟨_,e1,rfl⟩ ⟨_,e2,rfl⟩ noFill_list_add seq_list_add F.slot_list_add F.entry_list_add (F.args_list_add_2 _ _) (add_meets l items n1 b items2 n2 sl1 sl2 hsz) ⟨e1,e2,h⟩
def Jc9:D→D→Option D
 | .lst _ xs,.lst _ ys=>if imms xs && imms ys && decide (xs.length+ys.length≤sizeLine) then some (.lst .m (xs++ys)) else none
 | _,_=>none
theorem od_catL:OD2 X (binaryOp .Add) Jc9:=by
 intro pins s σ H x y v u Q I rx ry ⟨C,dx,dy,fx,fy,d,hC,hF,r1,r2,e,k⟩
 unfold Jc9 at e
 split at e
 ·rename_i g xs g' ys
  split at e<;>cases e
  rename_i hi
  simp only[Bool.and_eq_true,decide_eq_true_eq]at hi
  obtain⟨⟨h1,h2⟩,h3⟩:=hi
  obtain⟨a,vs,f,rfl,q,rz⟩:=JF hC hF r1
  obtain⟨b,ws,f',rfl,q',rz'⟩:=JF hC hF r2
  cases rx
  cases ry
  obtain⟨its,r,pl,hz⟩:=I.list q
  obtain⟨its2,r',pl2,hz2⟩:=I.list q'
  have l1:=Jz rz
  have l2:=Jz rz'
  have m1:=r.length
  have m2:=r'.length
  refine add_listP pl pl2 ?_ (by rw[List.size_toArray,List.size_toArray];omega)
  have ea:its.toArray++its2.toArray=(its++its2).toArray:=by simp
  rw[ea]
  exact⟨.ref _,_,I.lnew (t':=s.toks) (r.append r') (by rw[List.length_append];omega),rfl,k.lst (UR rz rz') (by rw[Jbj,h1,h2];rfl) I.fresh⟩
 ·cases e
end
end VS
namespace VS
open PySem L2 SeqAt
section
variable {X:Cx} {W:WX} {M M1 M2 M3 M4 V1 V2 V3 Rs R1 R2 R3:List Nat} {e a b c tg:Expr} {es ifs:List Expr} {ca cb cc:CE} {cs src:CA} {ct:CT} {pos p:Pos} {g:D→Env→Option Env}
variable {pins:List (Addr × Obj)} {σ σ':St} {H H1 H2 H':Hp} {s:Shared} {C C':Ctx}
def JdN:D→D→Option D
 | .tup xs,.tup ys=>if imms xs && imms ys && decide (xs.length+ys.length≤sizeLine) then some (.tup (xs++ys)) else none
 | _,_=>none
theorem od_catT:OD2 X (binaryOp .Add) JdN:=by
 refine OD2.of op_catA fun x y H Q ⟨C,dx,dy,fx,fy,d,hC,hF,r1,r2,e,k⟩=>?_
 unfold JdN at e
 split at e
 ·rename_i xs ys
  split at e<;>cases e
  rename_i hi
  simp only[Bool.and_eq_true,decide_eq_true_eq]at hi
  obtain⟨⟨h1,h2⟩,h3⟩:=hi
  obtain⟨a,vs,rfl,q,rz⟩:=Yg hC r1
  obtain⟨b,ws,rfl,q',rz'⟩:=Yg hC r2
  have l1:=Jz rz
  have l2:=Jz rz'
  have ez:=rz.imm h1
  have ez':=rz'.imm h2
  subst ez ez'
  refine⟨a,b,vs,ws,rfl,rfl,q,q',by omega,fun e0=>?_,fun e0 e1=>?_,fun e0 e1 p hp=>k.tup (UR rz rz') (by rw[Jbj,h1,h2];rfl) hp⟩
  ·subst e0
   cases xs with
   | nil=>exact k.here ⟨b,ws,rfl,by rw[hC.1];exact q',rz'⟩
   | cons x xs=>simp at l1
  ·subst e1
   cases ys with
   | nil=>rw[List.append_nil]at k;exact k.here ⟨a,vs,rfl,by rw[hC.1];exact q,rz⟩
   | cons x xs=>simp at l2
 ·cases e
def JdS:D→D→Option D
 | .str x,.str y=>if x.length+y.length≤sizeLine then some (.str (x++y)) else none
 | _,_=>none
theorem od_catS:OD2 X (binaryOp .Add) JdS:=by
 refine OD2.of op_add_str fun x y H Q ⟨C,dx,dy,fx,fy,d,hC,hF,r1,r2,e,k⟩=>?_
 unfold JdS at e
 split at e
 ·split at e<;>cases e
  rename_i hz
  obtain⟨rfl,_⟩:=r1
  obtain⟨rfl,_⟩:=r2
  exact⟨_,_,rfl,rfl,hz,k.here ⟨rfl,rfl⟩⟩
 ·cases e
def pAdd:D→D→Option D:=orP2 Jfq (orP2 Jc9 (orP2 JdN JdS))
theorem Yv:OD2 X (binaryOp .Add) pAdd:=OD2.or od_addI (OD2.or od_catL (OD2.or od_catT od_catS))
def bls:List D→Option (List Bool)
 | []=>some []
 | .bl b::ds=>(bls ds).map (b::·)
 | _=>none
def Jer:List D→Option (List Int)
 | []=>some []
 | .int b::ds=>(Jer ds).map (b::·)
 | _=>none
theorem Jfc:∀{ds:List D} {bs:List Bool} {vs:List V} {f:List Addr},bls ds=some bs→Reps C H ds vs f→vs=bs.map V.bl
 | [],bs,vs,f,h,r=>by cases h;exact r.1
 | d::ds,bs,vs,f,h,⟨v,vs',f1,f2,e,r,rs,_⟩=>by
  cases d<;>simp only[bls]at h<;>try cases h
  obtain⟨bs',h1,rfl⟩:=Option.map_eq_some_iff.mp h
  rw[e,Jfc h1 rs,r.1];rfl
theorem Jf5:∀{ds:List D} {bs:List Int} {vs:List V} {f:List Addr},Jer ds=some bs→Reps C H ds vs f→vs=bs.map V.int
 | [],bs,vs,f,h,r=>by cases h;exact r.1
 | d::ds,bs,vs,f,h,⟨v,vs',f1,f2,e,r,rs,_⟩=>by
  cases d<;>simp only[Jer]at h<;>try cases h
  obtain⟨bs',h1,rfl⟩:=Option.map_eq_some_iff.mp h
  rw[e,Jf5 h1 rs,r.1];rfl
@[simp] theorem intsD_ints:∀ns:List Int,Jer (ns.map D.int)=some ns
 | []=>rfl
 | n::ns=>by simp[Jer,intsD_ints ns]
@[simp] theorem JgH:∀ns:List Bool,bls (ns.map D.bl)=some ns
 | []=>rfl
 | n::ns=>by simp[bls,JgH ns]
theorem Jew {C:Ctx} {H:Hp}:∀ns:List Str,Reps C H (ns.map D.str) (ns.map V.str) []
 | []=>⟨rfl,rfl⟩
 | n::ns=>⟨.str n,ns.map V.str,[],[],rfl,⟨rfl,rfl⟩,Jew ns,rfl⟩
@[simp] theorem Zg:∀ns:List Str,imms (ns.map D.str)=true
 | []=>rfl
 | n::ns=>by simp[Zg ns]
def pAll:List D→Option D
 | [.lst _ ds]=>(bls ds).map fun bs=>.bl (bs.all id)
 | _=>none
def pAny:List D→Option D
 | [.lst _ ds]=>(bls ds).map fun bs=>.bl (bs.any id)
 | _=>none
def pSum:List D→Option D
 | [.lst _ ds]=>(Jer ds).map fun bs=>.int bs.sum
 | _=>none
theorem Jbo (hc:X.calm=true):ODL X (.builtin "all") pAll:=by
 refine ODL.of (cr_all hc) fun xs H Q ⟨C,ds,fx,d,hC,hF,rs,e,k⟩=>?_
 unfold pAll at e
 split at e
 ·obtain⟨bs,h,rfl⟩:=Option.map_eq_some_iff.mp e
  obtain⟨v,rfl,r⟩:=Zn rs
  obtain⟨a,vs,f,rfl,q,rz⟩:=JF hC hF r
  have:=Jfc h rz
  subst this
  exact⟨a,bs,rfl,q,k.here ⟨rfl,rfl⟩⟩
 ·cases e
theorem od_any (hc:X.calm=true):ODL X (.builtin "any") pAny:=by
 refine ODL.of (cr_any hc) fun xs H Q ⟨C,ds,fx,d,hC,hF,rs,e,k⟩=>?_
 unfold pAny at e
 split at e
 ·obtain⟨bs,h,rfl⟩:=Option.map_eq_some_iff.mp e
  obtain⟨v,rfl,r⟩:=Zn rs
  obtain⟨a,vs,f,rfl,q,rz⟩:=JF hC hF r
  have:=Jfc h rz
  subst this
  exact⟨a,bs,rfl,q,k.here ⟨rfl,rfl⟩⟩
 ·cases e
theorem Jhe (hc:X.calm=true):ODL X (.builtin "sum") pSum:=by
 refine ODL.of (cr_sum hc) fun xs H Q ⟨C,ds,fx,d,hC,hF,rs,e,k⟩=>?_
 unfold pSum at e
 split at e
 ·obtain⟨bs,h,rfl⟩:=Option.map_eq_some_iff.mp e
  obtain⟨v,rfl,r⟩:=Zn rs
  obtain⟨a,vs,f,rfl,q,rz⟩:=JF hC hF r
  have:=Jf5 h rz
  subst this
  exact⟨a,bs,rfl,q,k.here ⟨rfl,rfl⟩⟩
 ·cases e
def cutD (xs:List D) (lo hi:Option Int):List D:=(xs.drop (HT.sIx xs.length 0 lo)).take (HT.sIx xs.length xs.length hi - HT.sIx xs.length 0 lo)
theorem JeG:∀{ds:List D} {vs:List V} {f:List Addr} (n:Nat),Reps C H ds vs f→∃g1 g2,f=g1++g2∧Reps C H (ds.drop n) (vs.drop n) g2
 | ds,vs,f,0,r=>⟨[],f,rfl,r⟩
 | [],vs,f,n+1,r=>by obtain⟨h1,h2⟩:=r;subst h1;exact⟨[],f,rfl,by simpa using ⟨rfl,h2⟩⟩
 | d::ds,vs,f,n+1,⟨v,vs',f1,f2,e,r,rs,e2⟩=>by
  obtain⟨g1,g2,h1,h2⟩:=JeG n rs
  subst e e2 h1
  exact⟨f1++g1,g2,by simp,by simpa using h2⟩
theorem JeA:∀{ds:List D} {vs:List V} {f:List Addr} (n:Nat),Reps C H ds vs f→∃g1 g2,f=g1++g2∧Reps C H (ds.take n) (vs.take n) g1
 | ds,vs,f,0,r=>⟨[],f,rfl,rfl,rfl⟩
 | [],vs,f,n+1,r=>by obtain⟨h1,h2⟩:=r;subst h1;exact⟨f,[],by simp,by simpa using ⟨rfl,h2⟩⟩
 | d::ds,vs,f,n+1,⟨v,vs',f1,f2,e,r,rs,e2⟩=>by
  obtain⟨g1,g2,h1,h2⟩:=JeA n rs
  subst e e2 h1
  exact⟨f1++g1,g2,by simp,v,vs'.take n,f1,g1,by simp,r,h2,rfl⟩
theorem Jfu {ds:List D} {vs:List V} (lo hi:Option Int) (r:Reps C H ds vs []):Reps C H (cutD ds lo hi) (cutV vs lo hi) []:=by
 unfold cutD cutV
 rw[Jz r]
 obtain⟨g1,g2,h1,h2⟩:=JeG (HT.sIx vs.length 0 lo) r
 have hg:g2=[]:=(List.append_eq_nil_iff.mp h1.symm).2
 subst hg
 obtain⟨g3,g4,h3,h4⟩:=JeA (HT.sIx vs.length vs.length hi - HT.sIx vs.length 0 lo) h2
 have hg:g3=[]:=(List.append_eq_nil_iff.mp h3.symm).1
 subst hg
 exact h4
theorem Jb2:∀{ds es:List D},es.Sublist ds→imms ds=true→imms es=true
 | _,_,.slnil,_=>rfl
 | _,_,.cons a h,hi=>Jb2 h (by simp only[imms,Bool.and_eq_true]at hi;exact hi.2)
 | _,_,.cons₂ a h,hi=>by simp only[imms,Bool.and_eq_true]at hi ⊢;exact⟨hi.1,Jb2 h hi.2⟩
theorem Jfl (ds:List D) (lo hi:Option Int):(cutD ds lo hi).Sublist ds:=(List.take_sublist _ _).trans (List.drop_sublist _ _)
def pSl:D→Option Int→Option Int→Option D
 | .lst _ ds,lo,hi=>if imms ds then some (.lst .m (cutD ds lo hi)) else none
 | .tup ds,lo,hi=>if imms ds then some (.tup (cutD ds lo hi)) else none
 | .str z,lo,hi=>if z.length≤sizeLine then some (.str (cutS z lo hi)) else none
 | _,_,_=>none
def rSlD (X:Cx):V→Option Int→Option Int→Hp→VK→Prop:=fun x lo hi H Q=>rSlL X.K x lo hi H Q∨(rSlA X.K x lo hi H Q∨rSlS x lo hi H Q)
theorem sl_any:SlR X (rSlD X):=sl_list.or (sl_tupA.or sl_str)
theorem sl_ok {d r:D} {v:V} {fp:List Addr} {lo hi:Option Int} {Q:VK} (hC:C.At X) (hF:Fr C H) (rp:Rep C H d v fp) (h:pSl d lo hi=some r) (k:JaD C H r Q):rSlD X v lo hi H Q:=by
 unfold pSl at h
 split at h
 ·rename_i g ds
  split at h<;>cases h
  rename_i hi'
  obtain⟨a,vs,f,rfl,q,rz⟩:=JF hC hF rp
  have:=rz.imm hi';subst this
  exact .inl ⟨a,vs,rfl,q,fun p hp=>k.lst (Jfu lo hi rz) (Jb2 (Jfl _ _ _) hi') hp⟩
 ·rename_i ds
  split at h<;>cases h
  rename_i hi'
  obtain⟨a,vs,rfl,q,rz⟩:=Yg hC rp
  have:=rz.imm hi';subst this
  refine .inr (.inl ⟨a,vs,rfl,q,fun hw=>?_,fun hw p hp=>k.tup (Jfu lo hi rz) (Jb2 (Jfl _ _ _) hi') hp⟩)
  have hl:=Jz rz
  have e:cutD ds lo hi=ds:=by
   unfold cutD
   rw[hl,hw.1,hw.2,←hl];simp
  rw[e]at k
  exact k.here ⟨a,vs,rfl,by rw[hC.1];exact q,rz⟩
 ·rename_i z
  split at h<;>cases h
  rename_i hz
  obtain⟨rfl,_⟩:=rp
  exact .inr (.inr ⟨z,rfl,hz,k.here ⟨rfl,rfl⟩⟩)
 ·cases h
structure SPt (X:Cx) (W:WX) (M:List Nat) (e:Option Expr) (c:Env→R (Option Int)):Prop where
 go:∃t,PO X e t∧∀C fs env σ H tf Q,C.At X→Good C fs env σ H tf→(match c env with
  | .ok o env'=>∀fs' H',Good C fs' env' σ H' tf→Step M tf fs env H fs' env' H'→Q o H'
  | .ex x env'=>∀cv dd fs' H',Good C fs' env' σ H' tf→Step M tf fs env H fs' env' H'→ExIs C x cv dd H'→W cv dd σ H'
  | .err=>False)→t σ H Q
def pNo:Env→R (Option Int):=fun env=>.ok none env
def pAt (c:CE):Env→R (Option Int):=fun env=>(c env).bind fun d env=>match d with
 | .int i=>.ok (some i) env
 | _=>.err
theorem Jab:SPt X W [] none pNo:=⟨tNoPart,po_none,fun C fs env σ H tf Q hC G po=>po fs H G .refl⟩
theorem QK (h:SB X W M Rs e ca):SPt X W M (some e) (pAt ca):=by
 obtain⟨t,p,q⟩:=h.go
 refine⟨tPart t,po_some p,fun C fs env σ H tf Q hC G po=>?_⟩
 show t σ H fun x H1=>∃i,x=.int i∧Q (some i) H1
 refine q C fs env σ H tf _ hC G ?_
 unfold pAt at po
 cases e1:ca env with
 | err=>rw[e1]at po;exact po
 | ex x env'=>rw[e1]at po;exact po
 | ok d env' =>
  rw[e1]at po
  intro v fs' H' fp own G' s r i1
  cases d with
  | int i=>obtain⟨rfl,_⟩:=r;exact⟨i,rfl,po fs' H' G'.drop s⟩
  | _=>exact po.elim
def cSl (ca:CE) (lo hi:Env→R (Option Int)):CE:=fun env=>(ca env).bind fun d env=>(lo env).bind fun l env=>(hi env).bind fun h env=>R.of (pSl d l h) env
theorem Ug {p2:Pos} {lo hi:Option Expr} {cl ch:Env→R (Option Int)} (ha:SB X W M1 R1 a ca) (hl:SPt X W M2 lo cl) (hh:SPt X W M3 hi ch) (hd:djB R1 (M2++M3)=true):SO X W (M1++(M2++M3)) (.Subscript a (.Slice lo hi none p2) pos) (cSl ca cl ch):=by
 obtain⟨t,p,q⟩:=ha.go
 obtain⟨t2,p2',q2⟩:=hl.go
 obtain⟨t3,p3,q3⟩:=hh.go
 refine⟨tSl (rSlD X) t t2 t3,pe_slice sl_any p p2' p3,fun C fs env σ H tf Q hC G po=>?_⟩
 show t σ H fun x H1=>t2 σ H1 fun l H2=>t3 σ H2 fun u H3=>rSlD X x l u H3 Q
 have dj:=Jaf hd
 refine q C fs env σ H tf _ hC G ?_
 unfold cSl at po
 cases e1:ca env with
 | err=>rw[e1]at po;exact po
 | ex x env'=>rw[e1]at po;exact fun cv dd fs' H' G' s=>po cv dd fs' H' G' (s.weak ZG fun _ z=>z)
 | ok d env1 =>
  rw[e1]at po
  intro v fs1 H1 fp own G1 s1 r1 i1
  have po1:=Ut.step s1 po
  refine q2 C fs1 env1 σ H1 (own++tf) _ hC G1 ?_
  simp only[R.bind]at po1
  cases e2:cl env1 with
  | err=>rw[e2]at po1;exact po1
  | ex x env'=>rw[e2]at po1;exact fun cv dd fs' H' G' s=>po1 cv dd fs' H' G'.drop (s.weak ZG fun x hx=>List.mem_append_right _ hx)
  | ok l env2 =>
   rw[e2]at po1
   intro fs2 H2 G2 s2
   have s2':=s2.weak (fun _ z=>z) (tf':=tf) fun x hx=>List.mem_append_right _ hx
   have po2:=Ut.step s2' po1
   refine q3 C fs2 env2 σ H2 (own++tf) _ hC G2 ?_
   simp only at po2
   cases e3:ch env2 with
   | err=>rw[e3]at po2;exact po2
   | ex x env'=>rw[e3]at po2;exact fun cv dd fs' H' G' s=>po2 cv dd fs' H' G'.drop (s.weak (fun _ z=>z) fun x hx=>List.mem_append_right _ hx)
   | ok h env3 =>
    rw[e3]at po2
    intro fs3 H3 G3 s3
    have s23:=s2.trans s3
    have r3:Rep C H3 d v fp:=r1.keep (i1.keep s23 dj) s23.m
    simp only[R.of]at po2
    cases e4:pSl d l h with
    | none=>rw[e4]at po2;exact po2.elim
    | some r =>
     rw[e4]at po2
     have s3':=s3.weak (fun _ z=>z) (tf':=tf) fun x hx=>List.mem_append_right _ hx
     exact sl_ok hC G3.fr r3 e4 (Zb (own:=own) G3 s3' po2)
end
end VS
namespace VS
open PySem L2 SeqAt RZ
section
variable {X:Cx} {W:WX} {M M1 M2 M3 M4 V1 V2 V3 Rs R1 R2 R3:List Nat} {e a b c tg:Expr} {es ifs:List Expr} {ca cb cc:CE} {cs src:CA} {ct:CT} {pos p:Pos} {g:D→Env→Option Env}
variable {pins:List (Addr × Obj)} {σ σ':St} {H H1 H2 H':Hp} {s:Shared} {C C':Ctx}
theorem JiO {t1 t2:TI} (h1:PI X tg e t1) (h2:PI X tg e t2):PI X tg e (fun σ H R=>t1 σ H R∨t2 σ H R) :=
 ⟨fun pins s σ H R I h=>h.elim (h1.run pins s σ H R I) (h2.run pins s σ H R I)⟩
theorem src_list {g:Fl} {ds:List D} {v:V} {fp:List Addr} (hC:C.At X) (hF:Fr C H1) (r:Rep C H1 (.lst g ds) v fp) (hi:imms ds=true):∃a vs,v=.ref a∧SqL X.K H1 a vs∧Reps C H1 ds vs [] ∧
  (∀H2,Fr C H2∧Mono H1 H2∧(∀b∈fp,H2 b=H1 b)→SqL X.K H2 a vs∧Reps C H2 ds vs []):=by
 obtain⟨a,vs,f1,f2,rfl,n,rs,hz,ef⟩:=r
 have sq:SqL X.K H1 a vs:=by have:=(Nd.rd n hF).sql;rwa[hC.1]at this
 have z:=rs.imm hi
 subst z
 refine⟨a,vs,rfl,sq,rs,fun H2 ⟨hf2,hm,hk⟩=>⟨?_,rs.keep (fun b hb=>nomatch hb) hm⟩⟩
 have n2:Nd C H2 g a (.lst vs) f1:=Nd.keep n (fun b hb=>hk b (by rw[ef];simp[hb])) hm
 have:=(Nd.rd n2 hf2).sql;rwa[hC.1]at this
theorem src_tup {ds:List D} {v:V} {fp:List Addr} (hC:C.At X) (r:Rep C H1 (.tup ds) v fp) (hi:imms ds=true):∃a vs,v=.ref a∧SqT X.K H1 a vs∧Reps C H1 ds vs [] ∧
  (∀H2,Fr C H2∧Mono H1 H2∧(∀b∈fp,H2 b=H1 b)→SqT X.K H2 a vs∧Reps C H2 ds vs []):=by
 obtain⟨a,vs,rfl,n,rs⟩:=r
 have sq:SqT X.K H1 a vs:=by rwa[hC.1]at n
 have z:=rs.imm hi
 subst z
 exact⟨a,vs,rfl,sq,rs,fun H2 ⟨hf2,hm,hk⟩=>⟨Jbk sq hm,rs.keep (fun b hb=>nomatch hb) hm⟩⟩
def JB (c:CE):CA:=fun env=>(c env).bind fun d env=>match d with
 | .lst _ ds=>if imms ds then .ok ds env else .err
 | .tup ds=>if imms ds then .ok ds env else .err
 | _=>.err
theorem Yu (h:SB X W M Rs e ca):SI X W M Rs tg e (JB ca):=by
 obtain⟨t,p,q⟩:=(si_list (tg:=tg) h).go
 obtain⟨t2,p2,q2⟩:=(si_tup (tg:=tg) h).go
 refine⟨_,JiO p p2,fun C fs env σ H tf Q hC G po=>?_⟩
 unfold JB at po
 cases e1:ca env with
 | err=>rw[e1]at po;exact po.elim
 | ex x env' =>
  refine .inl (q C fs env σ H tf Q hC G ?_)
  unfold iSeq
  rw[e1]at po ⊢
  exact po
 | ok d env1 =>
  rw[e1]at po
  cases d with
  | lst g ds =>
   refine .inl (q C fs env σ H tf Q hC G ?_)
   unfold iSeq
   rw[e1]
   exact po
  | tup ds =>
   refine .inr (q2 C fs env σ H tf Q hC G ?_)
   unfold Jid
   rw[e1]
   exact po
  | _=>exact po.elim
def numD:Nat→List D→List D
 | _,[]=>[]
 | i,d::ds=>.tup [.int (i:Nat),d]::numD (i+1) ds
theorem Jd0:∀{ds:List D} {k i:Nat},(numD k ds)[i]?=(ds[i]?).map fun d=>.tup [.int ((k+i:Nat):Int),d]
 | [],k,i=>by simp[numD]
 | d::ds,k,0=>by simp[numD]
 | d::ds,k,i+1=>by
  simp only[numD,List.getElem?_cons_succ]
  rw[Jd0]
  congr 1
  funext x
  have:k+1+i=k+(i+1):=by omega
  rw[this]
theorem Jeb:∀{ds:List D} {k:Nat},(numD k ds).length=ds.length
 | [],k=>rfl
 | d::ds,k=>by simp[numD,Jeb]
def Jdw (c:CE):CA:=fun env=>(c env).bind fun d env=>match d with
 | .lst _ ds=>if imms ds then .ok (numD 0 ds) env else .err
 | _=>.err
theorem si_enum {elts:List Expr} {kk:Nat} {tpos p2:Pos} (hg:Gl X "enumerate") (hm:X.mg "enumerate" = none) (h:SB X W M Rs e ca) (hs:starEach [e] X.env=[(false,eval e X.env)]:=by rfl):SI X W M Rs (.Tuple elts kk tpos) (.Call (.Name "enumerate" p2) [e] [] pos) (Jdw ca):=by
 obtain⟨t,p,q⟩:=h.go
 refine⟨iEnum X.K (tCons t tNil),pi_enum hg hm (pa_cons p pa_nil hs) hs,fun C fs env σ H tf Q hC G po=>?_⟩
 show t σ H fun x H1=>_
 refine q C fs env σ H tf _ hC G ?_
 unfold Jdw at po
 cases e1:ca env with
 | err=>rw[e1]at po;exact po
 | ex x env'=>rw[e1]at po;exact po
 | ok d env1 =>
  rw[e1]at po
  intro v fs1 H1 fp own G1 s1 r1 i1
  cases d with
  | lst g ds =>
   have po':Jd6 W C M Rs tf fs env σ H Q (if imms ds then .ok (numD 0 ds) env1 else .err):=po
   by_cases hi:imms ds=true
   ·rw[if_pos hi]at po'
    obtain⟨a,vs,rfl,sq,rs,kp⟩:=src_list hC G1.fr r1 hi
    refine⟨a,vs,rfl,sq,po' _ fs1 H1 fp own G1 s1 ⟨?_⟩ i1⟩
    rw[Jeb,Jz rs]
    refine Walk.mono (walk_enum (K:=X.K) (a:=a) (xs:=vs)) (fun H2 h2=>(kp H2 h2).1) fun i H2 x H3 hi2 h2 ⟨T,y,z,e1,e2,e3,e4,e5⟩=>?_
    subst e1 e3
    cases e4
    obtain⟨d,h1,h3⟩:=Qn (kp H2 h2).2 hi e5
    have le:=Le.new (o:=.tup [.int (i:Nat),z]) e2
    refine⟨le,.tup [.int (i:Nat),d],by rw[Jd0,h1];simp,T,_,rfl,SqT.of upd_same,.int (i:Nat),[z],[],[],rfl,⟨rfl,rfl⟩,⟨z,[],[],[],rfl,h3.le le,⟨rfl,rfl⟩,rfl⟩,rfl⟩
   ·rw[if_neg hi]at po';exact po'.elim
  | _=>exact po.elim
end
end VS
namespace VS
open PySem L2 SeqAt PySem.Spec PyProof.Rows HT
section
variable {prog:Program} {w:World} {A:Around} {E:Value→Shared→Prop} {s:Shared}
theorem Jbf {sl:Addr} {vl vu vs:Value} {n:Nat} {k:Int} {Q:Int × Int × Nat→Shared→Prop} (hs:s.heap.IsSliceOf sl vl vu vs) (pl:IsPart vl none) (pu:IsPart vu none) (ps:IsPart vs (some k)) (hk:(k == 0)=false)
  (h:Q ((Builtin.Slice.sliceAdjust none none k (n:Int)).1,k,Builtin.Slice.slicePlaces (Builtin.Slice.sliceAdjust none none k (n:Int)).1 (Builtin.Slice.sliceAdjust none none k (n:Int)).2 k) s):wpAny (model prog w) A (Builtin.Slice.sliceApplied (.ref sl) (pure (n:Int))) Q E s:=by
 obtain⟨os,hos,hcs,hds⟩:=id hs
 unfold Builtin.Slice.sliceApplied Builtin.Slice.sliceFields
 refine wpAny_bind (wpAny_bind (wpAny_field hos hds (x:=vl) rfl (wpAny_bind (wpAny_field hos hds (x:=vu) rfl (wpAny_bind (wpAny_field hos hds (x:=vs) rfl (wpAny_pure ?_)))))))
 refine wpAny_bind (slicePart_ ps ?_)
 show wpAny _ _ (if (k == 0)=true then _ else _) _ _ s
 rw[if_neg (by rw[hk];decide)]
 refine wpAny_bind (slicePart_ pl (wpAny_bind (slicePart_ pu (wpAny_bind (wpAny_pure ?_)))))
 exact wpAny_pure h
theorem adj_one (n:Nat):Builtin.Slice.sliceAdjust none none 1 (n:Int)=(0,(n:Int)):=rfl
theorem adj_neg (n:Nat):Builtin.Slice.sliceAdjust none none (-1) (n:Int)=((n:Int) - 1,-1):=rfl
theorem places_one (n:Nat):Builtin.Slice.slicePlaces 0 (n:Int) 1=n:=by
 unfold Builtin.Slice.slicePlaces
 rw[if_pos (by decide)]
 split<;>omega
theorem places_neg (n:Nat):Builtin.Slice.slicePlaces ((n:Int) - 1) (-1) (-1)=n:=by
 unfold Builtin.Slice.slicePlaces
 rw[if_neg (by decide),show (-(-1:Int))=1 from rfl]
 split<;>omega
theorem JfE {α β:Type} {f g:α→Option β}:∀{l:List α},(∀x∈l,f x=g x)→l.filterMap f=l.filterMap g
 | [],_=>rfl
 | a::l,h=>by rw[List.filterMap_cons,List.filterMap_cons,h a (by simp),JfE fun x hx=>h x (by simp[hx])]
theorem pick_neg (xs:List Value):((List.range xs.length).filterMap fun (m:Nat)=>xs.toArray[(((xs.length:Int) - 1)+(m:Int) * -1).toNat]?).toArray=xs.reverse.toArray:=by
 have e:=pick_gen xs.reverse.toArray 0 xs.length
 simp only[List.toList_toArray,List.drop_zero]at e
 rw[show xs.reverse.take xs.length=xs.reverse from by rw[←List.length_reverse,List.take_length]]at e
 rw[←e]
 congr 1
 refine JfE fun m hm=>?_
 have hm:=List.mem_range.mp hm
 have e1:(((xs.length:Int) - 1)+(m:Int) * -1).toNat=xs.length - 1 - m:=by omega
 have e2:(((0:Nat):Int)+(m:Int) * 1).toNat=m:=by omega
 rw[e1,e2]
 simp only[List.getElem?_toArray]
 rw[List.getElem?_reverse hm]
theorem getItem_tuple_st {t sl:Addr} {its:List Value} {vl vu vs:Value} {k:Int} {Q:Value→Shared→Prop} (ht:IsTup s.heap t its.toArray) (hs:s.heap.IsSliceOf sl vl vu vs) (pl:IsPart vl none) (pu:IsPart vu none) (ps:IsPart vs (some k))
  (h1:k=1→Q (.ref t) s) (h2:k=-1→Q (.ref s.heap.objs.size) { s with heap:=s.heap.push { cls:=.type "tuple", data:=.seq its.reverse.toArray } }) (hk:k=1∨k=-1) (hsz:its.length≤sizeLine):wpAny (model prog w) A (getItem (.ref t) (.ref sl)) Q E s:=by
 obtain⟨os,hos,hcs,hds⟩:=id hs
 have hTs:s.TypeIs (.ref sl) "slice" := ⟨os,hos,hcs⟩
 unfold getItem
 try with_reducible refine wpAny_holding ?_
 first | refine wpAny_bind (wpAny_pure ?_) | skip
 refine wpAny_bind (wpAny_sequenceKey ht.typeIs (by decide) ?_)
 refine wpAny_bind (wpAny_callSpecial?_slot (name:=Str.ofString "__getitem__") ht.typeIs PyProof.Rows.slot_tuple_getitem
  (wpAny_call_entry PyProof.Rows.slot_tuple_getitem ht.typeIs entry_tuple_getitem ?_ (args_tuple_getitem _ _)))
 show wpAny _ _ (Builtin.Tuple.tupleItemsOf (.ref t) >>= _) _ _ s
 refine wpAny_bind (tupleItemsOf_ ht ?_)
 refine wpAny_bind (wpAny_typeOf hTs ?_)
 rw[if_pos (by decide)]
 have hz:its.toArray.size=its.length:=List.size_toArray
 rcases hk with hk | hk
 ·subst hk
  refine wpAny_bind (Jbf hs pl pu ps rfl ?_)
  rw[adj_one]
  show wpAny _ _ (if (((0:Int) == 0 && (1:Int) == 1 && Builtin.Slice.slicePlaces 0 (its.toArray.size:Int) 1 == its.toArray.size)=true) then _ else _) _ _ s
  rw[places_one,if_pos (by simp)]
  refine wpAny_bind ?_
  show wpAny _ _ (typeOf (.ref t) >>= fun T=>pure (T == .type "tuple")) _ _ s
  refine wpAny_bind (wpAny_typeOf ht.typeIs (wpAny_pure ?_))
  first
   | rw[if_pos (by decide)]
   | simp only[beq_self_eq_true,if_true]
  first
   | exact wpAny_bind (wpAny_rule (wpAny_pure ⟨_,rfl,wpAny_pure (h1 rfl)⟩))
   | exact wpAny_bind (wpAny_bind (wpAny_rule (wpAny_pure (wpAny_pure ⟨_,rfl,wpAny_pure (h1 rfl)⟩))))
   | exact wpAny_bind (wpAny_rule (wpAny_bind (wpAny_pure (wpAny_pure ⟨_,rfl,wpAny_pure (h1 rfl)⟩))))
 ·subst hk
  refine wpAny_bind (Jbf hs pl pu ps rfl ?_)
  rw[adj_neg]
  show wpAny _ _ (if ((((its.toArray.size:Int) - 1) == 0 && (-1:Int) == 1 && Builtin.Slice.slicePlaces ((its.toArray.size:Int) - 1) (-1) (-1) == its.toArray.size)=true) then _ else _) _ _ s
  rw[places_neg,if_neg (by simp),hz,pick_neg]
  have htake:sizeOk (.seq its.reverse.toArray):=by
   show its.reverse.toArray.size≤sizeLine
   rw[List.size_toArray,List.length_reverse];exact hsz
  first
   | exact wpAny_bind (m:=Builtin.Tuple.tupleExact _) (wpAny_newObj_type (wpAny_pure ⟨_,rfl,wpAny_pure (h2 rfl)⟩) htake)
   | exact wpAny_bind (m:=Builtin.Tuple.tupleExact _) (wpAny_newObj_type (wpAny_bind (wpAny_pure (wpAny_pure ⟨_,rfl,wpAny_pure (h2 rfl)⟩))) htake)
   | exact wpAny_bind (wpAny_bind (m:=Builtin.Tuple.tupleExact _) (wpAny_newObj_type (wpAny_pure (wpAny_pure ⟨_,rfl,wpAny_pure (h2 rfl)⟩)) htake))
   | exact wpAny_bind (wpAny_bind (m:=Builtin.Tuple.tupleExact _) (wpAny_newObj_type (wpAny_pure ⟨_,rfl,wpAny_pure (h2 rfl)⟩) htake))
end
section
variable {X:Cx} {W:WX} {M M1 M2 M3 M4 V1 V2 V3 Rs R1 R2 R3:List Nat} {e a b c tg:Expr} {es ifs:List Expr} {ca cb cc:CE} {cs src:CA} {ct:CT} {pos p:Pos} {g:D→Env→Option Env}
variable {pins:List (Addr × Obj)} {σ σ':L2.St} {H H1 H2 H':Hp} {s:Shared} {C C':Ctx}
def Jim (K:PySem.W.Frag):V→Int→Hp→VK→Prop:=fun x k H Q=>(k=1∨k=-1)∧∃a vs,x=.ref a ∧
 ((SqT K H a vs∧(k=1→Q (.ref a) H)∧(k=-1→∀p,H p=none→Q (.ref p) (upd H p (.tup vs.reverse))))∨(SqL K H a vs∧k=-1∧∀p,H p=none→Q (.ref p) (upd H p (.lst vs.reverse))))
theorem pe_step {te tk:TE} {p3:Pos} (he:PE X e te) (hk:PE X a tk):PE X (.Subscript e (.Slice none none (some a) p3) pos) (fun σ H Q=>te σ H fun x H1=>tk σ H1 fun y H2=>∃k,y=.int k∧Jim X.K x k H2 Q):=by
 refine⟨fun pins s σ H Q I h=>?_⟩
 refine Subscript_ (thn (he.run pins s σ H _ I h) fun v s1 ⟨x,H1,I1,r1,q1⟩=>?_)
 refine wpAny_Slice (thn (po_none.run pins s1 σ H1 (fun o H2=>o=none∧H2=H1) I1 ⟨rfl,rfl⟩) fun vl s2 ⟨l,H2,I2,pl,el,e2⟩=>?_)
 subst el e2
 refine thn (po_none.run pins s2 σ H2 (fun o H3=>o=none∧H3=H2) I2 ⟨rfl,rfl⟩) fun vu s3 ⟨u,H3,I3,pu,eu,e3⟩=>?_
 subst eu e3
 rw[evalPart_some]
 refine thn (hk.run pins s3 σ H3 _ I3 q1) fun vs s4 ⟨y,H4,I4,ry,k,ey,hq⟩=>?_
 subst ey
 obtain⟨tk',rfl⟩:=ry
 have ps:IsPart (.int k tk') (some k):=.int k tk'
 generalize Value.int k tk'=vs at ps
 obtain⟨hk1,ad,ws,ex,hq⟩:=hq
 subst ex
 cases r1
 have I5:Inv X pins σ H4 { s4 with heap:=s4.heap.push { cls:=.type "slice", data:=.fields #[vl,vu,vs] } }:=I4.kept (t':=s4.toks) fun b ob q=>Heap.get?_push_of_some _ q
 show wpAny (model X.prog X.w) X.A (subscriptTail e (.Slice none none (some a) p3) (.ref ad) (.ref s4.heap.objs.size)) (EP X pins σ Q) X.xe { s4 with heap:=s4.heap.push { cls:=.type "slice", data:=.fields #[vl,vu,vs] } }
 rcases hq with ⟨ht,q1,q2⟩ | ⟨hl,ek,q2⟩
 ·obtain⟨its,r,pt,hz⟩:=I5.tuple ht
  have hlen:=r.length
  refine tail_any (ops:=[.ref ad,.ref s4.heap.objs.size]) pt.typeIs (PyProof.Rows.slot_tuple_getitem.lookup) ?_ (by with_unfolding_all rfl)
  refine getItem_tuple_st pt (Heap.IsSliceOf.new _ vl vu vs) pl pu ps (fun e1=>⟨.ref ad,H4,I5,rfl,q1 e1⟩) (fun e1=>?_) hk1 (by omega)
  refine⟨.ref _,_,I5.laid (t':=s4.toks) (o:=.tup ws.reverse) (fun b ob q=>Heap.get?_push_of_some _ q) (Nat.le_refl _) ?_,rfl,q2 e1 _ (I5.hok.fresh (Nat.le_refl _))⟩
  exact⟨by rw[List.length_reverse];exact hz,_,r.reverse,IsTup.new _ _⟩
 ·subst ek
  obtain⟨its,r,ht,hz⟩:=I5.list hl
  have hlen:=r.length
  refine tail_any (ops:=[.ref ad,.ref s4.heap.objs.size]) ht.isList.typeIs (PySem.slot_list_getitem.lookup) ?_ (by with_unfolding_all rfl)
  refine wpAny_getItem_list_slice ht.isList (Heap.IsSliceOf.new _ vl vu vs) pl pu ps (by decide) ?_ (by rw[List.size_toArray];omega)
  rw[PySem.W.krv_pick]
  refine⟨.ref _,_,I5.laid (t':=s4.toks) (o:=.lst ws.reverse) (fun b ob q=>Heap.get?_push_of_some _ q) (Nat.le_refl _) ?_,rfl,q2 _ (I5.hok.fresh (Nat.le_refl _))⟩
  exact⟨by rw[List.length_reverse];exact hz,_,0,r.reverse,Heap.get?_push_size _ rfl⟩
end
end VS
namespace VS
open PySem L2 SeqAt
section
variable {X:Cx} {W:WX} {M M1 M2 M3 M4 V1 V2 V3 Rs R1 R2 R3:List Nat} {e a b c tg:Expr} {es ifs:List Expr} {ca cb cc:CE} {cs src:CA} {ct:CT} {pos p:Pos} {g:D→Env→Option Env}
variable {pins:List (Addr × Obj)} {σ σ':L2.St} {H H1 H2 H':Hp} {s:Shared} {C C':Ctx}
def QR:D→D→Option D
 | .tup ds,.int k=>if imms ds then (if k=1 then some (.tup ds) else if k=-1 then some (.tup ds.reverse) else none) else none
 | .lst _ ds,.int k=>if imms ds && decide (k=-1) then some (.lst .m ds.reverse) else none
 | _,_=>none
theorem Jcl:∀{ds:List D},imms ds=ds.all D.imm
 | []=>rfl
 | d::ds=>by rw[imms,List.all_cons,Jcl]
theorem JfU {ds:List D} (h:imms ds=true):imms ds.reverse=true:=by
 rw[Jcl]at h ⊢
 rw[List.all_reverse];exact h
theorem Jd7:∀{ds:List D} {vs:List V},Reps C H ds vs []→Reps C H ds.reverse vs.reverse []
 | [],vs,⟨h1,h2⟩=>by subst h1;exact⟨rfl,rfl⟩
 | d::ds,vs,⟨v,vs',f1,f2,e,r,rs,e2⟩=>by
  obtain⟨z1,z2⟩:=List.append_eq_nil_iff.mp e2.symm
  subst e z1 z2
  rw[List.reverse_cons,List.reverse_cons]
  exact UR (f:=[]) (g:=[]) (Jd7 rs) ⟨v,[],[],[],rfl,r,⟨rfl,rfl⟩,rfl⟩
theorem step_ok {dx dy d:D} {x y:V} {fx fy:List Addr} {Q:VK} (hC:C.At X) (hF:Fr C H) (r1:Rep C H dx x fx) (r2:Rep C H dy y fy) (e:QR dx dy=some d) (k:JaD C H d Q):∃n,y=.int n∧Jim X.K x n H Q:=by
 unfold QR at e
 split at e
 ·rename_i ds n
  obtain⟨rfl,_⟩:=r2
  obtain⟨a,vs,rfl,q,rz⟩:=Yg hC r1
  split at e
  case isFalse=>cases e
  rename_i hi
  have ez:=rz.imm hi
  subst ez
  by_cases h1:n=1
  ·subst h1
   cases e
   exact⟨1,rfl,.inl rfl,a,vs,rfl,.inl ⟨q,fun _=>k.here ⟨a,vs,rfl,by rw[hC.1];exact q,rz⟩,fun z=>(by cases z)⟩⟩
  ·rw[if_neg h1]at e
   by_cases h2:n=-1
   ·subst h2
    cases e
    exact⟨-1,rfl,.inr rfl,a,vs,rfl,.inl ⟨q,fun z=>(by cases z),fun _ p hp=>k.tup (Jd7 rz) (JfU hi) hp⟩⟩
   ·rw[if_neg h2]at e;cases e
 ·rename_i g ds n
  obtain⟨rfl,_⟩:=r2
  obtain⟨a,vs,f,rfl,q,rz⟩:=JF hC hF r1
  split at e
  case isFalse=>cases e
  rename_i hi
  cases e
  simp only[Bool.and_eq_true,decide_eq_true_eq]at hi
  obtain⟨hi,rfl⟩:=hi
  have ez:=rz.imm hi
  subst ez
  exact⟨-1,rfl,.inr rfl,a,vs,rfl,.inr ⟨q,rfl,fun p hp=>k.lst (Jd7 rz) (JfU hi) hp⟩⟩
 ·cases e
theorem Jdg {p3:Pos} (ha:SB X W M1 R1 a ca) (hb:SB X W M2 R2 b cb) (hd:djB R1 M2=true):SO X W (M1++M2) (.Subscript a (.Slice none none (some b) p3) pos) (c2 QR ca cb):=by
 obtain⟨ta,tb,pa,pb,q⟩:=JcP ha hb hd
 refine⟨_,pe_step pa pb,fun C fs env σ H tf Q hC G po=>q C fs env σ H tf _ hC G ?_⟩
 unfold c2 at po
 cases e1:cTwo ca cb env with
 | err=>rw[e1]at po;exact po
 | ex x env'=>rw[e1]at po;exact po
 | ok d env' =>
  rw[e1]at po
  intro x y fs' H' f1 f2 own G' s r1 r2 i1 i2
  have po':Ut W C (M1++M2) tf fs env σ H Q (R.of (QR d.1 d.2) env'):=po
  cases e2:QR d.1 d.2 with
  | none=>rw[e2]at po';exact po'.elim
  | some z=>rw[e2]at po';exact step_ok hC G'.fr r1 r2 e2 (Zb (own:=own) G' s po')
def JdV:D→D→Option D
 | .str x,.str y=>if (y.length == 0)=false∧x.length+2≤sizeLine then some (.lst .m ((Txt.split x y).map D.str)) else none
 | _,_=>none
def Jfh (ca cb:CE):CE:=fun env=>(ca env).bind fun d env=>match d with
 | .str x=>(cb env).bind fun y env=>R.of (JdV (.str x) y) env
 | _=>.err
theorem so_split {o:Expr} {apos:Pos} (ha:SB X W M1 R1 o ca) (hb:SB X W M2 R2 e cb) (hs:starEach [e] X.env=[(false,eval e X.env)]) (hbase:attributeBase o "split" X.env (eval o X.env)=eval o X.env) (hline:(apos.endLine == pos.line)=true) :
  SO X W (M1++M2) (.Call (.Attribute o "split" apos) [e] [] pos) (Jfh ca cb):=by
 obtain⟨t,p,q⟩:=ha.go
 obtain⟨t2,p2,q2⟩:=hb.go
 refine⟨_,pe_splitAny p p2 hs hbase hline,fun C fs env σ H tf Q hC G po=>?_⟩
 show t σ H fun x H1=>(∃a,x=.str a)∧t2 σ H1 fun y H2=>rSplitAny x [y] H2 Q
 refine q C fs env σ H tf _ hC G ?_
 unfold Jfh at po
 cases e1:ca env with
 | err=>rw[e1]at po;exact po
 | ex x env'=>rw[e1]at po;exact fun cv dd fs' H' G' s=>po cv dd fs' H' G' (s.weak ZG fun _ z=>z)
 | ok d env1 =>
  rw[e1]at po
  intro v fs1 H1 fp own G1 s1 r1 i1
  have po1:=Ut.step s1 po
  simp only[R.bind]at po1
  cases d with
  | str x =>
   obtain⟨rfl,_⟩:=r1
   refine⟨⟨x,rfl⟩,q2 C fs1 env1 σ H1 tf _ hC G1.drop ?_⟩
   simp only at po1
   cases e2:cb env1 with
   | err=>rw[e2]at po1;exact po1
   | ex x env'=>rw[e2]at po1;exact po1
   | ok y env2 =>
    rw[e2]at po1
    intro w fs2 H2 f2 own2 G2 s2 r2 _
    simp only[R.of]at po1
    cases e3:JdV (.str x) y with
    | none=>rw[e3]at po1;exact po1.elim
    | some z =>
     rw[e3]at po1
     unfold JdV at e3
     split at e3
     ·rename_i x' y' ex
      cases ex
      split at e3<;>cases e3
      rename_i hz
      obtain⟨rfl,_⟩:=r2
      refine .inl ⟨x,y',rfl,rfl,hz.1,hz.2,fun l hl=>?_⟩
      have k:=Zb (own:=own2) G2 s2 po1
      exact k.lst (Jew _) (Zg _) hl
     ·cases e3
  | _=>exact po1.elim
def putP (kd:List Key × List D) (k:Key) (x:D):List Key × List D:=match idxK kd.1 k with
 | some j=>(kd.1,kd.2.set j x)
 | none=>(kd.1++[k],kd.2++[x])
def Jau:List D→Option (List (Key × D))
 | []=>some []
 | .tup [k,x]::ds=>k.key.bind fun k=>(Jau ds).map fun r=>(k,x)::r
 | _=>none
def mkD (ps:List (Key × D)):List Key × List D:=ps.foldl (fun acc p=>putP acc p.1 p.2) ([],[])
def Jd1:List D→Option D
 | [.lst _ ds]=>if imms ds then (Jau ds).map fun ps=>.dct .m (mkD ps).1 (mkD ps).2 else none
 | _=>none
theorem put_rep {kvs:List (Key × V)} {kd:List Key × List D} {k:Key} {x:D} {v:V} (h1:kvs.map (·.1)=kd.1) (hn:kd.1.Nodup) (hr:Reps C H kd.2 (kvs.map (·.2)) []) (rx:Rep C H x v []) :
  (putK kvs k v).map (·.1)=(putP kd k x).1∧(putP kd k x).1.Nodup∧Reps C H (putP kd k x).2 ((putK kvs k v).map (·.2)) []:=by
 unfold putP
 cases q:idxK kd.1 k with
 | some j =>
  have q':=q
  rw[←h1]at q'
  have e1:=Jcu (v:=v) (by rw[h1];exact hn) q'
  have hj:=(Jdi q').2
  have hjd:j < kd.2.length:=by rw[Jz hr];simpa using hj
  obtain⟨w',g1,fo,g2,k1,k2,k3,k4⟩:=Jch hr (j:=j) (x:=kd.2[j]) (by simp[hjd])
  have z:=List.append_eq_nil_iff.mp k3.symm
  have z2:=List.append_eq_nil_iff.mp z.1
  obtain⟨⟨rfl,rfl⟩,rfl⟩:=And.intro z2 z.2
  refine⟨?_,hn,?_⟩
  ·rw[e1,Jc3,h1]
   have:=JdR q'
   rw[List.getElem?_map]at this;exact this
  ·rw[e1,JcT]
   exact k4 H x v [] (.refl H) (fun _ z=>nomatch z) rx
 | none =>
  have q':=q
  rw[←h1]at q'
  have e1:=putK_new v (Jdz q')
  refine⟨by rw[e1,List.map_append,h1];rfl,?_,?_⟩
  ·refine List.nodup_append.mpr ⟨hn,by simp,fun x hx y hy e=>?_⟩
   simp at hy;subst hy;subst e
   exact JeT q hx
  ·rw[e1,List.map_append]
   exact UR (f:=[]) (g:=[]) hr ⟨v,[],[],[],rfl,rx,⟨rfl,rfl⟩,rfl⟩
theorem JcE (hC:C.At X):∀{ds:List D} {ps:List (Key × D)} {vs:List V},Jau ds=some ps→imms ds=true→Reps C H ds vs []→∃(as:List Addr) (kvs:List (Key × V)),vs=as.map V.ref∧Paired (fun p kv=>SqT X.K H p [kV kv.1,kv.2]) as kvs ∧
  kvs.map (·.1)=ps.map (·.1)∧Reps C H (ps.map (·.2)) (kvs.map (·.2)) []
 | [],ps,vs,h,_,⟨h1,_⟩=>by cases h;subst h1;exact⟨[],[],rfl,.nil,rfl,rfl,rfl⟩
 | d::ds,ps,vs,h,hi,⟨v,vs',f1,f2,e,r,rs,e2⟩=>by
  obtain⟨z1,z2⟩:=List.append_eq_nil_iff.mp e2.symm
  subst e z1 z2
  unfold Jau at h
  split at h
  ·rename_i he;cases he
  ·rename_i k x ds' he
   cases he
   obtain⟨ky,h1,h2⟩:=Option.bind_eq_some_iff.mp h
   obtain⟨ps',h3,rfl⟩:=Option.map_eq_some_iff.mp h2
   rw[imms,Bool.and_eq_true]at hi
   obtain⟨as,kvs,q1,q2,q3,q4⟩:=JcE hC h3 hi.2 rs
   obtain⟨ad,ws,rfl,n,rw⟩:=r
   obtain⟨u1,us,g1,g2,ew,ru,rus,eg⟩:=rw
   obtain⟨u2,us2,g3,g4,ew2,ru2,⟨ew3,eg3⟩,eg2⟩:=rus
   obtain⟨y1,y2⟩:=List.append_eq_nil_iff.mp eg.symm
   subst y1 y2
   obtain⟨y3,y4⟩:=List.append_eq_nil_iff.mp eg2.symm
   subst y3 ew3 ew2 ew q1
   have ek:=Je7 h1 ru
   subst ek
   exact⟨ad::as,(ky,u2)::kvs,rfl,.cons (by rw[←hC.1];exact n) q2,by simp[q3],u2,_,[],[],rfl,ru2,q4,rfl⟩
  ·cases h
theorem JcF:∀{ps:List (Key × D)} {kvs acc:List (Key × V)} {kd:List Key × List D},kvs.map (·.1)=ps.map (·.1)→Reps C H (ps.map (·.2)) (kvs.map (·.2)) []→acc.map (·.1)=kd.1→kd.1.Nodup→Reps C H kd.2 (acc.map (·.2)) [] →
  (mergeK acc kvs).map (·.1)=(ps.foldl (fun acc p=>putP acc p.1 p.2) kd).1∧(ps.foldl (fun acc p=>putP acc p.1 p.2) kd).1.Nodup∧Reps C H (ps.foldl (fun acc p=>putP acc p.1 p.2) kd).2 ((mergeK acc kvs).map (·.2)) []
 | [],kvs,acc,kd,h1,h2,h3,h4,h5=>by
  cases kvs with
  | nil=>exact⟨h3,h4,h5⟩
  | cons a b=>cases h1
 | (k,x)::ps,kvs,acc,kd,h1,h2,h3,h4,h5=>by
  cases kvs with
  | nil=>cases h1
  | cons kv kvs =>
   obtain⟨k',v⟩:=kv
   simp only[List.map_cons,List.cons.injEq]at h1
   obtain⟨hk,h1⟩:=h1
   subst hk
   obtain⟨v',vs',f1,f2,e,r,rs,e2⟩:=h2
   cases e
   obtain⟨z1,z2⟩:=List.append_eq_nil_iff.mp e2.symm
   subst z1 z2
   obtain⟨p1,p2,p3⟩:=put_rep (k:=k') (x:=x) (v:=v) h3 h4 h5 r
   exact JcF (ps:=ps) (kvs:=kvs) (acc:=putK acc k' v) (kd:=putP kd k' x) h1 rs p1 p2 p3
theorem od_dictP (hc:X.calm=true):ODL X (.type "dict") Jd1:=by
 refine ODL.of (call_dictP hc) fun xs H Q ⟨C,ds,fx,d,hC,hF,rs,e,k⟩=>?_
 unfold Jd1 at e
 split at e
 ·rename_i g zs
  split at e
  case isFalse=>cases e
  rename_i hi
  obtain⟨ps,h1,rfl⟩:=Option.map_eq_some_iff.mp e
  obtain⟨v,rfl,r⟩:=Zn rs
  obtain⟨a,vs,f,rfl,q,rz⟩:=JF hC hF r
  have ez:=rz.imm hi
  subst ez
  obtain⟨as,kvs,rfl,q2,q3,q4⟩:=JcE hC h1 hi rz
  obtain⟨m1,m2,m3⟩:=JcF (acc:=[]) (kd:=([],[])) q3 q4 rfl .nil ⟨rfl,rfl⟩
  refine⟨a,as,kvs,rfl,q,q2,fun p hp=>?_⟩
  have le:=Le.new (o:=.dK (mergeK [] kvs)) hp
  exact k (.ref p) _ [p] le ⟨p,_,[p],[],rfl,⟨upd_same,rfl⟩,⟨m1,m2⟩,m3.le le,.inl rfl,rfl⟩ (by simp) fun a ha=>by simp at ha;subst ha;exact hp
 ·cases e
end
end VS
namespace VS
open PySem L2 SeqAt PySem.Spec PyProof.Rows
section
variable {X:Cx} {W:WX} {M M1 M2 M3 M4 V1 V2 V3 Rs R1 R2 R3:List Nat} {e a b c tg o:Expr} {es ifs:List Expr} {ca cb cc:CE} {cs src:CA} {ct:CT} {pos p apos cpos:Pos} {cl:CL} {i:Nat}
theorem Qu (ho:SL X W i M1 o cl) (ha:SAO X W M2 (e::es) cs)
  (hi:djB [i] M2=true) (hbase:attributeBase o "append" X.env (eval o X.env)=eval o X.env)
  (hfew:((backTo cpos (starEach (e::es) X.env)).all (fun x=>!x.1) && (backToKw cpos (keywordEach [] X.env)).all (fun x=>x.1.isSome)
   && decide ((e::es).length+([]:List Keyword).length+(if ([]:List Keyword).isEmpty then 0 else 1) < 30))=true)
  (hline:(apos.endLine == cpos.line)=true) (hs:starEach (e::es) X.env=(false,eval e X.env)::starEach es X.env) (hplain:(backTo cpos (starEach es X.env)).any (·.1)=false) :
  SO X W (M1++(M2++[i])) (.Call (.Attribute o "append" apos) (e::es) [] cpos) (cMut i kdL Uc cl cs) :=
 Jif mu_append PySem.F.plainAttrs_list PySem.F.slot_list_append PySem.F.type_list_append mt_append ho ha hi hbase hfew hline hs hplain
theorem fn_err {P:Program} {w:World} {K:PySem.W.Frag} {mg:Str→Option Value} {base:Heap} {x qual:Str} {st:Stmt} {f:Addr} {fd:FuncData} {N ps:List Str} {k:Nat} {io:List Bool} (F:Fun K x qual st f fd) (S:FnScope N ps (defScope st)) (hio:io.length=ps.length) :
  FnOk P w K mg base (L2.CX P w) (k+1) f fd ps (spF K mg io (fun _=>.err)):=by
 refine F.okX S (fun vs H Q E h=>by obtain⟨Lk,ds,fps,hl,_⟩:=h;rw[hl,hio]) fun cdv A outer s H vs Q E hr h=>?_
 obtain⟨Lk,ds,fps,hl,hA,nd,hk,po⟩:=h
 exact po.elim
end
end VS
namespace VS
open PySem L2 SeqAt
section
variable {α β:Type} (env:Env) (i j:Nat) (c ca cb cc:CE) (cs:CA) (ct:CT) (ta tb:CT) (d:D) (p q:D→D→Option D) (p1:D→Option D) (pl:List D→Option D) (s1 s2:CS) (g:D→Env→Option Env)
@[simp] theorem e_addI (i j:Int):pAdd (.int i) (.int j)=some (.int (i+j)):=by simp[pAdd,orP2,pI]
@[simp] theorem e_addT (xs ys:List D):pAdd (.tup xs) (.tup ys)=if imms xs && imms ys && decide (xs.length+ys.length≤sizeLine) then some (.tup (xs++ys)) else none:=by
 simp[pAdd,orP2,pI,Jc9,JdN,JdS]
@[simp] theorem e_addL (g g':Fl) (xs ys:List D):pAdd (.lst g xs) (.lst g' ys)=if imms xs && imms ys && decide (xs.length+ys.length≤sizeLine) then some (.lst .m (xs++ys)) else none:=by
 simp[pAdd,orP2,pI,Jc9,JdN,JdS]
@[simp] theorem e_pno:pNo env=.ok none env:=(rfl)
@[simp] theorem e_pat:pAt ca env=(ca env).bind fun d env=>match d with
 | .int i=>.ok (some i) env
 | _=>.err:=(rfl)
@[simp] theorem e_sl (lo hi:Env→R (Option Int)):cSl ca lo hi env=(ca env).bind fun d env=>(lo env).bind fun l env=>(hi env).bind fun h env=>R.of (pSl d l h) env:=(rfl)
@[simp] theorem e_sl1 (ds:List D) (lo hi:Option Int):pSl (.tup ds) lo hi=if imms ds then some (.tup (cutD ds lo hi)) else none:=(rfl)
@[simp] theorem e_sl2 (g:Fl) (ds:List D) (lo hi:Option Int):pSl (.lst g ds) lo hi=if imms ds then some (.lst .m (cutD ds lo hi)) else none:=(rfl)
@[simp] theorem e_st1 (ds:List D):QR (.tup ds) (.int 1)=if imms ds then some (.tup ds) else none:=(rfl)
@[simp] theorem e_st2 (ds:List D):QR (.tup ds) (.int (-1))=if imms ds then some (.tup ds.reverse) else none:=(rfl)
@[simp] theorem e_st3 (g:Fl) (ds:List D):QR (.lst g ds) (.int (-1))=if imms ds then some (.lst .m ds.reverse) else none:=by simp[QR]
@[simp] theorem e_split:Jfh ca cb env=(ca env).bind fun d env=>match d with
 | .str x=>(cb env).bind fun y env=>R.of (JdV (.str x) y) env
 | _=>.err:=(rfl)
@[simp] theorem e_lc (vs:List Nat) (ct:CT) (ce:CE) (src:CA):cLc src vs g ct ce env=(src env).bind fun ds env1 =>
 if ZX env1 vs=true∧ds.length≤sizeLine then (match QP vs g ct ce ds (Ur env1 vs) with
  | some r=>.ok (.lst .m r.1) (Qb env1 r.2 vs)
  | none=>.err) else .err:=(rfl)
@[simp] theorem JbW:JB c env=(c env).bind fun d env=>match d with
 | .lst _ ds=>if imms ds then .ok ds env else .err
 | .tup ds=>if imms ds then .ok ds env else .err
 | _=>.err:=(rfl)
@[simp] theorem e_enumD:Jdw c env=(c env).bind fun d env=>match d with
 | .lst _ ds=>if imms ds then .ok (numD 0 ds) env else .err
 | _=>.err:=(rfl)
@[simp] theorem e_rng1:ZH cs env=(cs env).bind fun ds env=>R.of (ZP ds) env:=(rfl)
@[simp] theorem e_wipe0:Ur env []=env:=(rfl)
@[simp] theorem e_wipe1 (v:Nat) (vs:List Nat):Ur env (v::vs)=(Ur env vs).set v none:=(rfl)
@[simp] theorem e_back0 (e1:Env):Qb e1 env []=env:=(rfl)
@[simp] theorem e_back1 (e1:Env) (v:Nat) (vs:List Nat):Qb e1 env (v::vs)=(Qb e1 env vs).set v (e1.getD v none):=(rfl)
@[simp] theorem e_clear0:ZX env []=true:=(rfl)
@[simp] theorem e_clear1 (v:Nat) (vs:List Nat):ZX env (v::vs)=((match env[v]? with
 | some (some d)=>d.imm
 | _=>true) && ZX env vs):=(rfl)
@[simp] theorem e_yes:cYes env=.ok true env:=(rfl)
@[simp] theorem e_gtup (n:Nat) (gs:List D→Env→Option Env) (ds:List D):JI n gs (.tup ds) env=if ds.length=n then gs ds env else none:=by
 first | rfl | simp[JI]
@[simp] theorem e_gnil:JL [] env=some env:=(rfl)
@[simp] theorem e_gcons (gs:List D→Env→Option Env) (ds:List D):Je g gs (d::ds) env=(g d env).bind fun env=>gs ds env:=(rfl)
@[simp] theorem e_isN1:pIs .non .non=some (.bl true):=(rfl)
@[simp] theorem e_isN2 (s:Str):pIs (.str s) .non=some (.bl false):=(rfl)
@[simp] theorem e_isN3 (g:Fl) (ds:List D):pIs (.lst g ds) .non=some (.bl false):=(rfl)
@[simp] theorem e_isNn1:ZY .non .non=some (.bl false):=(rfl)
@[simp] theorem e_isNn2 (s:Str):ZY (.str s) .non=some (.bl true):=(rfl)
@[simp] theorem e_eqS (i j:Str):pEq (.str i) (.str j)=some (.bl (i == j)):=(rfl)
@[simp] theorem e_neS (i j:Str):pNe (.str i) (.str j)=some (.bl (!(i == j))):=(rfl)
@[simp] theorem e_neB (i j:Bool):pNe (.bl i) (.bl j)=some (.bl (!(i == j))):=(rfl)
@[simp] theorem e_eqB (i j:Bool):pEq (.bl i) (.bl j)=some (.bl (i == j)):=(rfl)
@[simp] theorem e_list1 (g:Fl) (ds:List D):JfP [.lst g ds]=if imms ds then some (.lst .m ds) else none:=(rfl)
@[simp] theorem e_list2 (ds:List D):JfP [.tup ds]=if imms ds then some (.lst .m ds) else none:=(rfl)
@[simp] theorem e_tup1 (g:Fl) (ds:List D):JaL [.lst g ds]=if imms ds then some (.tup ds) else none:=(rfl)
@[simp] theorem e_tup2 (ds:List D):JaL [.tup ds]=if imms ds then some (.tup ds) else none:=(rfl)
@[simp] theorem e_mut (kd:D→Bool) (mp:D→List D→Option (D × D)) (cl:CL):cMut i kd mp cl cs env=(cl env).bind fun dF env=>if kd dF.1 then (cs env).bind fun ds env=>match mp dF.1 ds with
 | some dr=>.ok dr.2 (env.set i (some (dF.2 dr.1)))
 | none=>.err
 else .err:=(rfl)
@[simp] theorem e_lvar:lVar i env=match env[i]? with
 | some (some d)=>.ok (d,id) env
 | _=>.err:=(rfl)
@[simp] theorem e_kdL (ds:List D):kdL (.lst .m ds)=true:=(rfl)
@[simp] theorem e_app (ds:List D) (x:D):Uc (.lst .m ds) [x]=if ds.length < sizeLine then some (.lst .m (ds++[x]),.non) else none:=(rfl)
@[simp] theorem JbO (src:CA) (body:CS):sFor src g body env=match src env with
 | .ok ds env=>UH g body ds env
 | .ex x env=>.ex x env
 | .err=>.err:=(rfl)
theorem Ja4 {g:D→Env→Option Env} {body:CS} {d:D} {ds:List D} {env env1 env2:Env} (h1:g d env=some env1) (h2:body env1=.nx env2):UH g body (d::ds) env=UH g body ds env2:=by simp[UH,h1,h2]
theorem Jia {g:D→Env→Option Env} {body:CS} {d r:D} {ds:List D} {env env1 env2:Env} (h1:g d env=some env1) (h2:body env1=.rt r env2):UH g body (d::ds) env=.rt r env2:=by simp[UH,h1,h2]
end
end VS
namespace VS
open PySem L2 SeqAt
theorem Jbq {vs:List Nat} {g:D→Env→Option Env} {ce:CE} {env:Env} {y:D→D}:∀{ds:List D},(∀d∈ds,∃env1,g d env=some env1∧env1.length=env.length∧ce env1=.ok (y d) env1∧Ur env1 vs=env)→QP vs g cYes ce ds env=some (ds.map y,env)
 | [],_=>rfl
 | d::ds,h=>by
  obtain⟨env1,h1,h2,h3,h4⟩:=h d (by simp)
  have ih:=Jbq (vs:=vs) (g:=g) (ce:=ce) (env:=env) (y:=y) (ds:=ds) fun d hd=>h d (by simp[hd])
  unfold QP
  simp[h1,h2,h3,h4,ih]
@[simp] theorem e_sum1 (g:Fl) (ns:List Int):pSum [.lst g (ns.map D.int)]=some (.int ns.sum):=by simp[pSum]
@[simp] theorem Jbc (g:Fl) (ns:List Bool):pAll [.lst g (ns.map D.bl)]=some (.bl (ns.all id)):=by simp[pAll]
theorem JiD {vs:List Nat} {g:D→Env→Option Env} {ce:CE} {Iv:Env→Prop} {Y:D→D→Prop}:∀{ds:List D} {env:Env},Iv env →
  (∀d∈ds,∀env,Iv env→∃env1 y env2,g d env=some env1∧env1.length=env.length∧ce env1=.ok y env2∧Y d y∧Iv (Ur env2 vs)) →
  ∃ys env',QP vs g cYes ce ds env=some (ys,env')∧Iv env'∧Paired Y ds ys
 | [],env,h0,_=>⟨[],env,rfl,h0,.nil⟩
 | d::ds,env,h0,h=>by
  obtain⟨env1,y,env2,h1,h2,h3,h4,h5⟩:=h d (by simp) env h0
  obtain⟨ys,env',k1,k2,k3⟩:=JiD (vs:=vs) (g:=g) (ce:=ce) (Iv:=Iv) (Y:=Y) (ds:=ds) h5 fun d hd=>h d (by simp[hd])
  refine⟨y::ys,env',?_,k2,.cons h4 k3⟩
  unfold QP
  simp[h1,h2,h3,k1]
theorem JcY (j:Int) (h0:-(2 ^ 62)≤j) (h:j < 2 ^ 62):ZP [.int j]=some ((List.range j.toNat).map fun i=>.int (i:Nat)):=if_pos ⟨h0,h⟩
theorem JfY:∀{ks:List Key} {ds:List D} {k:Key} {j:Nat},idxK ks k=some j→ks.length=ds.length→Qw ks ds k=ds[j]?∧j < ds.length
 | [],ds,k,j,h,_=>by cases h
 | k0::ks,[],k,j,h,hl=>by cases hl
 | k0::ks,d::ds,k,j,h,hl=>by
  simp only[idxK]at h
  unfold Qw
  by_cases e:k0=k
  ·rw[if_pos e]at h ⊢;cases h;exact⟨by simp,by simp⟩
  ·rw[if_neg e]at h ⊢
   obtain⟨j',h',rfl⟩:=Option.map_eq_some_iff.mp h
   obtain⟨h1,h2⟩:=JfY h' (by simpa using hl)
   exact⟨by simpa using h1,by simpa using h2⟩
theorem JgQ:∀{ks:List Key} {k:Key},k∈ks→∃j,idxK ks k=some j
 | [],k,h=>by cases h
 | k0::ks,k,h=>by
  simp only[idxK]
  by_cases e:k0=k
  ·exact⟨0,by rw[if_pos e]⟩
  ·rw[if_neg e]
   obtain⟨j,h⟩:=JgQ ((List.mem_cons.mp h).resolve_left fun z=>e z.symm)
   exact⟨j+1,by rw[h];rfl⟩
theorem put_keeps {P:D→Prop} {kd:List Key × List D} {k:Key} {x:D} (hl:kd.1.length=kd.2.length) (hp:∀y∈kd.2,P y) (hx:P x) :
  (putP kd k x).1.length=(putP kd k x).2.length∧(∀y∈(putP kd k x).2,P y)∧(∀q∈kd.1,q∈(putP kd k x).1)∧k∈(putP kd k x).1:=by
 unfold putP
 cases q:idxK kd.1 k with
 | some j =>
  refine⟨by simpa using hl,fun y hy=>?_,fun _ h=>h,?_⟩
  ·rcases List.mem_or_eq_of_mem_set hy with z | z
   ·exact hp y z
   ·rw[z];exact hx
  ·exact List.mem_of_getElem? (JdR q)
 | none =>
  refine⟨by simp[hl],fun y hy=>?_,fun _ h=>List.mem_append_left _ h,by simp⟩
  rcases List.mem_append.mp hy with z | z
  ·exact hp y z
  ·simp at z;rw[z];exact hx
theorem JdK {P:D→Prop}:∀{ps:List (Key × D)} {kd:List Key × List D},kd.1.length=kd.2.length→(∀y∈kd.2,P y)→(∀p∈ps,P p.2) →
  (ps.foldl (fun acc p=>putP acc p.1 p.2) kd).1.length=(ps.foldl (fun acc p=>putP acc p.1 p.2) kd).2.length∧(∀y∈(ps.foldl (fun acc p=>putP acc p.1 p.2) kd).2,P y) ∧
   (∀q∈kd.1,q∈(ps.foldl (fun acc p=>putP acc p.1 p.2) kd).1)∧∀p∈ps,p.1∈(ps.foldl (fun acc p=>putP acc p.1 p.2) kd).1
 | [],kd,hl,hp,_=>⟨hl,hp,fun _ h=>h,fun _ h=>nomatch h⟩
 | (k,x)::ps,kd,hl,hp,hx=>by
  obtain⟨a1,a2,a3,a4⟩:=put_keeps (k:=k) hl hp (hx (k,x) (by simp))
  obtain⟨b1,b2,b3,b4⟩:=JdK (ps:=ps) a1 a2 fun p hp=>hx p (by simp[hp])
  refine⟨b1,b2,fun q hq=>b3 q (a3 q hq),fun p hp=>?_⟩
  rcases List.mem_cons.mp hp with z | z
  ·subst z;exact b3 _ a4
  ·exact b4 p z
theorem mk_look {P:D→Prop} {ps:List (Key × D)} (h:∀p∈ps,P p.2):∀p∈ps,∃x,Qw (mkD ps).1 (mkD ps).2 p.1=some x∧P x:=fun p hp=>by
 obtain⟨h1,h2,_,h4⟩:=JdK (P:=P) (ps:=ps) (kd:=([],[])) rfl (fun _ z=>nomatch z) h
 obtain⟨j,hj⟩:=JgQ (h4 p hp)
 obtain⟨e1,e2⟩:=JfY hj h1
 have e3:((mkD ps).2)[j]?=some ((mkD ps).2[j]'e2):=List.getElem?_eq_getElem e2
 exact⟨_,e1.trans e3,h2 _ (List.getElem_mem e2)⟩
end VS
namespace VS
open PySem L2 SeqAt PySem.Spec PyProof.Rows
section
variable {X:Cx} {W:WX} {M M1 M2 M3 V1 V2 V3 Rs R1 R2 R3:List Nat} {e a b c tg o:Expr} {es:List Expr} {ca cb cc:CE} {cs:CA} {pos p apos tpos:Pos} {cl:CL} {i:Nat} {io:List Bool}
variable {pins:List (Addr × Obj)} {σ:L2.St} {H H1 H2 H3 H':Hp} {s:Shared} {C C':Ctx} {fs fs1 fs2:FPs} {env env1 env2:Env} {tf tf' own:List Addr} {cr:Env→R (List AV)}
def MthT (P:Program) (w:World) (K:PySem.W.Frag) (mg:Str→Option Value) (base:Heap) (k:Nat) (c m:Str) (ps:List Str) (io:List Bool) (φ:List D→FR):Prop :=
 ∃(Ca f:Addr) (fd:FuncData),mg c=some (.ref Ca)∧Cls K Ca∧Meth K Ca m f∧FnOk P w K mg base (L2.CX P w) k f fd ps (spF K mg io φ)∧Binds K fd ps []
theorem MthT.mono {P:Program} {w:World} {K:PySem.W.Frag} {mg:Str→Option Value} {base:Heap} {j k:Nat} {c m:Str} {ps:List Str} {io:List Bool} {φ:List D→FR} (F:MthT P w K mg base j c m ps io φ) (h:j≤k):MthT P w K mg base k c m ps io φ :=
 let ⟨Ca,f,fd,h1,h2,h3,h4,h5⟩:=F
 ⟨Ca,f,fd,h1,h2,h3,h4.mono h,h5⟩
variable {k:Nat} {c m:Str} {ps:List Str} {φ:List D→FR}
end
end VS
namespace VS
open PySem L2 SeqAt PySem.Spec PyProof.Rows
section
variable {X:Cx} {W:WX} {M M1 M2 M3 V1 V2 V3 Rs R1 R2 R3:List Nat} {e a b c tg o:Expr} {es:List Expr} {ca cb cc:CE} {cs:CA} {pos p apos tpos:Pos} {cl:CL} {i:Nat} {io:List Bool}
variable {pins:List (Addr × Obj)} {σ:L2.St} {H H1 H2 H3 H' HA:Hp} {s:Shared} {C C':Ctx} {fs fs1 fs2 fsA:FPs} {env env1 env2:Env} {tf tf' own ownr:List Addr} {cr:Env→R (List AV)}
theorem AOk.le {Ms:List Nat} (h:Le H H'):∀{avs:List AV} {vs:List V} {fps:FPs},AOk C H σ Ms Rs fs ownr avs vs fps→AOk C H' σ Ms Rs fs ownr avs vs fps
 | [],vs,fps,x=>x
 | .ro d::as,vs,fps,⟨v,vs',fp,fps',e1,e2,r,i,x⟩=>⟨v,vs',fp,fps',e1,e2,r.le h,i,AOk.le h x⟩
 | .ow d wb::as,vs,fps,⟨v,vs',fp,fps',e1,e2,r,i,x⟩=>⟨v,vs',fp,fps',e1,e2,r.le h,i,AOk.le h x⟩
def MkT (P:Program) (w:World) (K:PySem.W.Frag) (mg:Str→Option Value) (base:Heap) (k:Nat) (c:Str) (ps:List Str) (io:List Bool) (φ:List D→FR):Prop :=
 ∃(Ca f:Addr) (fd:FuncData),mg c=some (.ref Ca)∧Mk K Ca f∧FnOk P w K mg base (L2.CX P w) k f fd ps (spF K mg (true::io) φ)∧Binds K fd ps []
theorem MkT.mono {P:Program} {w:World} {K:PySem.W.Frag} {mg:Str→Option Value} {base:Heap} {j k:Nat} {c:Str} {ps:List Str} {io:List Bool} {φ:List D→FR} (F:MkT P w K mg base j c ps io φ) (h:j≤k):MkT P w K mg base k c ps io φ :=
 let ⟨Ca,f,fd,h1,h2,h4,h5⟩:=F
 ⟨Ca,f,fd,h1,h2,h4.mono h,h5⟩
end
end VS
namespace VS
open PySem L2 SeqAt PySem.Spec PyProof.Rows
section
variable {X:Cx} {W:WX} {M M1 M2 M3 V1 V2 V3 Rs R1 R2 R3:List Nat} {e a b c tg o f:Expr} {es:List Expr} {ca cb cc:CE} {cs:CA} {pos p apos tpos cpos:Pos} {cl:CL} {i:Nat} {io:List Bool}
variable {pins:List (Addr × Obj)} {σ:L2.St} {H H1 H2 H3 H' HA:Hp} {s:Shared} {C C':Ctx} {fs fs1 fs2 fsA:FPs} {env env1 env2:Env} {tf tf' own ownr:List Addr}
theorem JfB:SO X W [] (.Dict [] [] pos) (cK (.dct .m [] [])):=by
 refine⟨tDNewK,pe_dnewK,fun C fs env σ H tf Q hC G po p np=>?_⟩
 refine po (.ref p) fs (upd H p (.dK [])) [p] (G.grow (Le.new np) (by simp) (by simpa using np) fun a ha=>?_) (Step.grow G (Le.new np)) ⟨p,[],[p],[],rfl,⟨upd_same,rfl⟩,⟨rfl,.nil⟩,⟨rfl,rfl⟩,.inl rfl,rfl⟩
 simp at ha;subst ha;exact⟨_,upd_same,trivial⟩
def Jd8:List (CE × CE)→Env→R (List (Key × D))
 | [],env=>.ok [] env
 | (k,v)::r,env=>(k env).bind fun dk env=>(v env).bind fun dv env=>(Jd8 r env).bind fun ps env=>match dk.key with
  | some ky=>.ok ((ky,dv)::ps) env
  | none=>.err
def PostPP (W:WX) (C:Ctx) (M:List Nat) (tf:List Addr) (fs:FPs) (env:Env) (σ:L2.St) (H:Hp) (Q:List (V × V)→Hp→Prop):R (List (Key × D))→Prop
 | .ok ps env'=>∀(kvs:List (Key × V)) fs' H' fp,Good C fs' env' σ H' (fp++tf)→Step M tf fs env H fs' env' H'→kvs.map (·.1)=ps.map (·.1)→Reps C H' (ps.map (·.2)) (kvs.map (·.2)) fp→Q (kvs.map fun kv=>(kV kv.1,kv.2)) H'
 | .ex x env'=>∀cv dd fs' H',Good C fs' env' σ H' tf→Step M tf fs env H fs' env' H'→ExIs C x cv dd H'→W cv dd σ H'
 | .err=>False
structure SPP (X:Cx) (W:WX) (pos:Pos) (M:List Nat) (keys:List (Option Expr)) (values:List Expr) (cps:List (CE × CE)):Prop where
 go:∃trs,PPs X pos keys values trs∧∀C fs env σ H tf Q,C.At X→Good C fs env σ H tf→PostPP W C M tf fs env σ H Q (Jd8 cps env)→tPairs trs σ H Q
end
end VS
namespace VS
open PySem L2 SeqAt PySem.Spec PyProof.Rows
section
variable {X:Cx} {W:WX} {Ma Mb Mc V1 V2 V3 Rs R1 R2 R3:List Nat} {e a b c tg o f:Expr} {es:List Expr} {ca cb cc cd:CE} {cs:CA} {pos p apos tpos cpos:Pos} {cl:CL} {i:Nat} {io:List Bool}
variable {pins:List (Addr × Obj)} {σ:L2.St} {H H1 H2 H3 H' HA:Hp} {s:Shared} {C C':Ctx} {fs fs1 fs2 fsA:FPs} {env env1 env2:Env} {tf tf' own ownr:List Addr}
theorem Foc.same {d:D} {v:V} {g1:List Addr} {d':D} {v':V} {fp' g2:List Addr} {F:D→D} (Fo:Foc C H d v g1 d' v' fp' g2 F):Rep C H (F d') v (g1++fp'++g2):=Fo.back H d' fp' (.refl H) (fun _ _=>rfl) Fo.here
theorem reps_snoc {ds:List D} {vs:List V} {x:D} {v:V} {f g:List Addr} (r:Reps C H ds vs f) (rx:Rep C H x v g):Reps C H (ds++[x]) (vs++[v]) (f++g):=UR r ⟨v,[],g,[],rfl,rx,⟨rfl,rfl⟩,by simp⟩
end
end VS
namespace VS
open PySem L2 SeqAt PySem.Spec PyProof.Rows
section
variable {X:Cx} {C:Ctx} {H H':Hp}
theorem JdL:∀{ds:List D} {vs:List V} {f:List Addr} (n:Nat),Reps C H ds vs f→∃g1 g2,f=g1++g2∧Reps C H (ds.take n) (vs.take n) g1∧Reps C H (ds.drop n) (vs.drop n) g2
 | ds,vs,f,0,r=>⟨[],f,by simp,⟨rfl,rfl⟩,by simpa using r⟩
 | [],vs,f,n+1,r=>by obtain⟨h1,h2⟩:=r;subst h1 h2;exact⟨[],[],rfl,⟨rfl,rfl⟩,⟨rfl,rfl⟩⟩
 | d::ds,vs,f,n+1,⟨v,vs',f1,f2,e,r,rs,e2⟩=>by
  obtain⟨g1,g2,h1,h2,h3⟩:=JdL n rs
  subst e e2 h1
  exact⟨f1++g1,g2,by simp,⟨v,vs'.take n,f1,g1,by simp,r,h2,rfl⟩,by simpa using h3⟩
theorem list_upd {ds':List D} {vs vs':List V} {a:Addr} {f f' fpa:List Addr} (hH:H a=some (.lst vs)) (nd:(a::f++fpa).Nodup) (h:∀H',Mono H H'→(∀b∈f++fpa,H' b=H b)→Reps C H' ds' vs' f') :
  Mono H (upd H a (.lst vs'))∧(∀b o,H b=some o→b∉a::f→upd H a (.lst vs') b=some o)∧Rep C (upd H a (.lst vs')) (.lst .m ds') (.ref a) (a::f')∧∀b∈f++fpa,upd H a (.lst vs') b=H b:=by
 have m:=Mono.upd (o:=.lst vs') hH trivial
 have nda:a∉f++fpa:=(List.nodup_cons.mp (by simpa using nd)).1
 have kp:∀b∈f++fpa,upd H a (.lst vs') b=H b:=fun b hb=>upd_ne fun z=>nda (z ▸ hb)
 refine⟨m,fun b o e hb=>?_,⟨a,vs',[a],f',rfl,⟨upd_same,rfl⟩,h _ m kp,.inl rfl,rfl⟩,kp⟩
 rw[upd_ne fun z=>hb (by simp[z])];exact e
def Jb7:D→List D→Option (D × D)
 | .lst .m ds,[.int i,x]=>if ds.length < sizeLine∧0≤i∧i < 2 ^ 63 then some (.lst .m (ds.take i.toNat++[x]++ds.drop i.toNat),.non) else none
 | _,_=>none
theorem mu_insert:MuOk X "list" (fun x vs H Q=>∃(l:Addr) (xs:List V) (i:Int) (y:V),x=.ref l∧vs=[.int i,y]∧H l=some (.lst xs)∧xs.length < sizeLine∧0≤i∧i < 2 ^ 63∧Q .non (upd H l (.lst (xs.take i.toNat++[y]++xs.drop i.toNat)))) kdL Jb7:=by
 refine⟨?_,JgI⟩
 intro C H v d fp vs ds fpa Q d' res hC hF r ra nd h k
 unfold Jb7 at h
 split at h
 case h_2=>cases h
 rename_i ds i x
 split at h
 case isFalse=>cases h
 rename_i hz
 cases h
 obtain⟨a,ws,f,rfl,hH,rs,rfl⟩:=Jha r
 obtain⟨vi,vx,f1,f2,rfl,ri,rx,rfl⟩:=Jfs ra
 obtain⟨rfl,rfl⟩:=ri
 obtain⟨g1,g2,rfl,h1,h2⟩:=JdL i.toNat rs
 obtain⟨m,ch,rp,_⟩:=list_upd (C:=C) (ds':=ds.take i.toNat++[x]++ds.drop i.toNat) (vs':=ws.take i.toNat++[vx]++ws.drop i.toNat) (f:=g1++g2) (f':=g1++f2++g2) (fpa:=f2) hH (by simpa using nd) fun H' m k =>
  UR (reps_snoc (h1.keep (fun b hb=>k b (by simp[hb])) m) (rx.keep (fun b hb=>k b (by simp[hb])) m)) (h2.keep (fun b hb=>k b (by simp[hb])) m)
 refine⟨a,ws,i,vx,rfl,rfl,hH,by rw[←Jz rs];exact hz.1,hz.2.1,hz.2.2,?_⟩
 refine k _ .non (a::(g1++f2++g2)) [] m ch rp ⟨rfl,rfl⟩ ?_ fun b hb=>?_
 ·have p:(a::(g1++f2++g2)++[]).Perm (a::(g1++g2)++([]++f2)):=by
   simp only[List.append_nil,List.nil_append,List.cons_append]
   refine List.Perm.cons a ?_
   rw[List.append_assoc,List.append_assoc]
   exact List.Perm.append_left g1 List.perm_append_comm
  exact p.nodup_iff.mpr nd
 ·simp at hb ⊢
  rcases hb with z | z | z | z<;>simp[z]
end
section
variable {X:Cx} {W:WX} {Ma Mb Mc V1 V2 V3 Rs R1 R2 R3:List Nat} {e f a b c tg o:Expr} {es:List Expr} {ca cb cc:CE} {cs:CA} {ct:CT} {pos p apos cpos:Pos} {cl:CL} {i:Nat}
theorem so_insert (ho:SL X W i Ma o cl) (ha:SAO X W Mb (e::es) cs)
  (hi:djB [i] Mb=true) (hbase:attributeBase o "insert" X.env (eval o X.env)=eval o X.env)
  (hfew:((backTo cpos (starEach (e::es) X.env)).all (fun x=>!x.1) && (backToKw cpos (keywordEach [] X.env)).all (fun x=>x.1.isSome)
   && decide ((e::es).length+([]:List Keyword).length+(if ([]:List Keyword).isEmpty then 0 else 1) < 30))=true)
  (hline:(apos.endLine == cpos.line)=true) (hs:starEach (e::es) X.env=(false,eval e X.env)::starEach es X.env) (hplain:(backTo cpos (starEach es X.env)).any (·.1)=false) :
  SO X W (Ma++(Mb++[i])) (.Call (.Attribute o "insert" apos) (e::es) [] cpos) (cMut i kdL Jb7 cl cs) :=
 Jif mu_insert PySem.F.plainAttrs_list PySem.F.slot_list_insert PySem.F.type_list_insert mt_insert ho ha hi hbase hfew hline hs hplain
end
end VS
namespace VS
open PySem L2 SeqAt PySem.Spec PyProof.Rows
mutual
def D.py:D→Option PyData
 | .non=>some .none
 | .bl b=>some (.bool b)
 | .int i=>some (.int i)
 | .str s=>some (.str s)
 | .tup ds=>(pys ds).map .tuple
 | .lst _ ds=>(pys ds).map .list
 | _=>none
def pys:List D→Option (List PyData)
 | []=>some []
 | d::ds=>d.py.bind fun y=>(pys ds).map fun ys=>y::ys
end
def pyO (d:D):PyData:=d.py.getD .none
section
variable {X:Cx} {C:Ctx} {H H':Hp} {pins:List (Addr × Obj)} {σ:L2.St} {s:Shared}
mutual
theorem Jar (I:Inv X pins σ H s) (hC:C.At X) (hF:Fr C H):∀{d:D} {y:PyData} {v:V} {fp:List Addr} {u:Value},d.py=some y→Rep C H d v fp→RelV v u→∃as,Reads s.heap u y as∧∀a∈as,a < s.heap.objs.size
 | .non,y,v,fp,u,h,⟨e,_⟩,r=>by cases h;subst e;cases (show u=Value.none from r);exact⟨[],.none,fun _ z=>nomatch z⟩
 | .bl b,y,v,fp,u,h,⟨e,_⟩,r=>by cases h;subst e;cases (show u=Value.bool b from r);exact⟨[],.bool b,fun _ z=>nomatch z⟩
 | .int i,y,v,fp,u,h,⟨e,_⟩,r=>by cases h;subst e;obtain⟨t,rfl⟩:=(show ∃t,u=Value.int i t from r);exact⟨[],.int i t,fun _ z=>nomatch z⟩
 | .str z,y,v,fp,u,h,⟨e,_⟩,r=>by cases h;subst e;obtain⟨t,rfl⟩:=(show ∃t,u=Value.str z t from r);exact⟨[],.str z t,fun _ z=>nomatch z⟩
 | .tup ds,y,v,fp,u,h,rp,r=>by
  obtain⟨ys,hy,rfl⟩:=Option.map_eq_some_iff.mp h
  obtain⟨a,vs,rfl,q,rs⟩:=Yg hC rp
  cases (show u=Value.ref a from r)
  obtain⟨its,rv,⟨o,e,hc,n,hd⟩,_⟩:=I.tuple q
  obtain⟨as,h1,h2⟩:=readsAll_rep I hC hF hy rs rv
  exact⟨as,.tuple e hc hd (by simpa using h1),h2⟩
 | .lst g ds,y,v,fp,u,h,rp,r=>by
  obtain⟨ys,hy,rfl⟩:=Option.map_eq_some_iff.mp h
  obtain⟨a,vs,f,rfl,q,rs⟩:=JF hC hF rp
  cases (show u=Value.ref a from r)
  obtain⟨its,rv,⟨o,n,e,hc,hdi,hd⟩,_⟩:=I.list q
  obtain⟨as,h1,h2⟩:=readsAll_rep I hC hF hy rs rv
  exact⟨a::as,.list e hc hd (by simpa using h1),fun b hb=>by
   rcases List.mem_cons.mp hb with z | z
   ·rw[z];exact Heap.lt_size e
   ·exact h2 b z⟩
 | .ty _,_,_,_,_,h,_,_=>by cases h
 | .ftu _,_,_,_,_,h,_,_=>by cases h
 | .dct _ _ _,_,_,_,_,h,_,_=>by cases h
 | .obj _ _ _ _,_,_,_,_,h,_,_=>by cases h
 | .exc _ _ _,_,_,_,_,h,_,_=>by cases h
theorem readsAll_rep (I:Inv X pins σ H s) (hC:C.At X) (hF:Fr C H):∀{ds:List D} {ys:List PyData} {vs:List V} {fp:List Addr} {us:List Value},pys ds=some ys→Reps C H ds vs fp→Vals vs us→∃as,ReadsAll s.heap us ys as∧∀a∈as,a < s.heap.objs.size
 | [],ys,vs,fp,us,h,⟨e,_⟩,r=>by cases h;subst e;cases r;exact⟨[],.nil,fun _ z=>nomatch z⟩
 | d::ds,ys,vs,fp,us,h,⟨v,vs',f1,f2,e,rd,rs,_⟩,r=>by
  obtain⟨y,hy,h⟩:=Option.bind_eq_some_iff.mp h
  obtain⟨ys',hys,rfl⟩:=Option.map_eq_some_iff.mp h
  subst e
  cases r with
  | cons r1 r2 =>
   obtain⟨as,h1,h2⟩:=Jar I hC hF hy rd r1
   obtain⟨bs,h3,h4⟩:=readsAll_rep I hC hF hys rs r2
   exact⟨as++bs,.cons h1 h3,fun a ha=>(List.mem_append.mp ha).elim (h2 a) (h4 a)⟩
end
theorem JeU:∀{ds:List D} {ys:List PyData},pys ds=some ys→ys=ds.map pyO
 | [],ys,h=>by cases h;rfl
 | d::ds,ys,h=>by
  obtain⟨y,hy,h⟩:=Option.bind_eq_some_iff.mp h
  obtain⟨ys',hys,rfl⟩:=Option.map_eq_some_iff.mp h
  simp[pyO,hy,JeU hys]
theorem Jdo:∀{ds:List D} {ys:List PyData} {d:D},pys ds=some ys→d∈ds→d.py=some (pyO d)
 | d0::ds,ys,d,h,hd=>by
  obtain⟨y,hy,h⟩:=Option.bind_eq_some_iff.mp h
  obtain⟨ys',hys,rfl⟩:=Option.map_eq_some_iff.mp h
  rcases List.mem_cons.mp hd with z | z
  ·subst z;simp[pyO,hy]
  ·exact Jdo hys z
theorem JdJ:∀{ds:List D} {vs:List V} {us:List Value},ds.length=vs.length→Vals vs us→PySem.W.EachIs (fun (u:Value) (b:D × V)=>RelV b.2 u) us (ds.zip vs)
 | [],[],us,_,r=>by cases r;exact .nil
 | d::ds,v::vs,us,h,r=>by
  cases r with
  | cons r1 r2=>exact .cons r1 (JdJ (by simpa using h) r2)
theorem JbQ (I:Inv X pins σ H s) (hC:C.At X) (hF:Fr C H):∀{ds:List D} {ys:List PyData} {vs:List V} {fp:List Addr} {us:List Value},pys ds=some ys→Reps C H ds vs fp→Vals vs us →
  PySem.W.EachIs (fun (u:Value) (b:D × V)=>∃as,Reads s.heap u (pyO b.1) as∧∀a∈as,a < s.heap.objs.size) us (ds.zip vs)
 | [],ys,vs,fp,us,h,⟨e,_⟩,r=>by subst e;cases r;exact .nil
 | d::ds,ys,vs,fp,us,h,⟨v,vs',f1,f2,e,rd,rs,_⟩,r=>by
  obtain⟨y,hy,h⟩:=Option.bind_eq_some_iff.mp h
  obtain⟨ys',hys,rfl⟩:=Option.map_eq_some_iff.mp h
  subst e
  cases r with
  | cons r1 r2 =>
   obtain⟨as,h1,h2⟩:=Jar I hC hF hy rd r1
   exact .cons ⟨as,by simpa [pyO,hy] using h1,h2⟩ (JbQ I hC hF hys rs r2)
theorem Jcz:∀{us:List Value} {bs:List (D × V)},PySem.W.EachIs (fun (u:Value) (b:D × V)=>RelV b.2 u) us bs→Vals (bs.map (·.2)) us
 | [],[],_=>.nil
 | u::us,b::bs,h=>by
  cases h with
  | cons h1 h2=>exact .cons h1 (Jcz h2)
theorem JbL:∀{bs:List (D × V)},(∀b∈bs,Rep C H b.1 b.2 [])→Reps C H (bs.map (·.1)) (bs.map (·.2)) []
 | [],_=>⟨rfl,rfl⟩
 | b::bs,h=>⟨b.2,bs.map (·.2),[],[],rfl,h b (by simp),JbL fun c hc=>h c (by simp[hc]),rfl⟩
theorem JbG:∀{ds:List D} {vs:List V},Reps C H ds vs []→∀b∈ds.zip vs,Rep C H b.1 b.2 []
 | [],vs,_,b,hb=>by simp at hb
 | d::ds,vs,⟨v,vs',f1,f2,e,r,rs,e2⟩,b,hb=>by
  subst e
  obtain⟨z1,z2⟩:=List.append_eq_nil_iff.mp e2.symm
  subst z1 z2
  rw[List.zip_cons_cons]at hb
  rcases List.mem_cons.mp hb with z | z
  ·subst z;exact r
  ·exact JbG rs b z
end
def leD (a b:D):Bool:=PySem.W.dataLe false pyO a b
def JcS (ds:List D):Bool:=ds.all fun d=>ds.all fun e=>PySem.W.alike (pyO d) (pyO e)
def JaS (ds:List D):Bool:=(ds.all fun d=>match pyO d with
 | .tuple (_::_)=>true
 | _=>false) || ds.all fun d=>match pyO d with
 | .none=>false
 | .tuple _=>false
 | _=>true
def Jbp (ds:List D):Bool:=ds.all fun d=>decide ((pyO d).depth≤20)
def JcH (ds:List D):Bool:=(pys ds).isSome && imms ds && JcS ds && JaS ds && Jbp ds && decide (ds.length≤sizeLine)
theorem JcC {ds:List D} (h:JcS ds=true):PySem.W.AllAlike (ds.map pyO):=by
 intro x hx y hy
 obtain⟨d,hd,rfl⟩:=List.mem_map.mp hx
 obtain⟨e,he,rfl⟩:=List.mem_map.mp hy
 exact List.all_eq_true.mp (List.all_eq_true.mp h d hd) e he
theorem Jcm {ds:List D} (h:JaS ds=true):PySem.W.Sortable (ds.map pyO):=by
 rcases Bool.or_eq_true_iff.mp h with h | h
 ·left
  intro x hx
  obtain⟨d,hd,rfl⟩:=List.mem_map.mp hx
  have:=List.all_eq_true.mp h d hd
  split at this
  ·rename_i y r e;exact⟨y,r,e⟩
  ·cases this
 ·right
  intro x hx
  obtain⟨d,hd,rfl⟩:=List.mem_map.mp hx
  have:=List.all_eq_true.mp h d hd
  split at this
  ·cases this
  ·cases this
  ·rename_i h1 h2
   exact⟨h1,fun xs e=>h2 xs e⟩
section
variable {X:Cx} {C:Ctx} {H H':Hp} {pins:List (Addr × Obj)} {σ:L2.St} {s:Shared}
theorem Jcg {α β:Type}:∀{xs:List α} {ys:List β},xs.length=ys.length→(xs.zip ys).map (·.1)=xs
 | [],[],_=>rfl
 | x::xs,y::ys,h=>by simp[Jcg (xs:=xs) (ys:=ys) (by simpa using h)]
theorem Jct (I:Inv X pins σ H s) {k:Nat} (hr:Room k X.A) (hC:C.At X) (hF:Fr C H) {u:Value} {ds:List D} {vs:List V} {Q:VK} (hok:JcH ds=true) (rs:Reps C H ds vs [])
  (hcoll:∀{R:List Value→Shared→Prop} {E:Value→Shared→Prop},(∀h' tk us,(∀b o,s.heap.get? b=some o→h'.get? b=some o)→Vals vs us→R us { s with heap:=h',toks:=tk })→wpAny (model X.prog X.w) X.A.in1 (collect u) R E s)
  (hq:∀p,H p=none→∀vs',Reps C H (ds.mergeSort leD) vs' []→Q (.ref p) (upd H p (.lst vs'))):wpAny (model X.prog X.w) X.A (call (.builtin "sorted") [u]) (EP X pins σ Q) X.xe s:=by
 obtain⟨h6,hlen⟩:=Bool.and_eq_true_iff.mp hok
 obtain⟨h5,hsh⟩:=Bool.and_eq_true_iff.mp h6
 obtain⟨h4,hso⟩:=Bool.and_eq_true_iff.mp h5
 obtain⟨h3,hal⟩:=Bool.and_eq_true_iff.mp h4
 obtain⟨h2,hi⟩:=Bool.and_eq_true_iff.mp h3
 obtain⟨ys,hys⟩:=Option.isSome_iff_exists.mp h2
 have hlen:=of_decide_eq_true hlen
 have lv:ds.length=vs.length:=Jz rs
 refine Calls.call_function_entry PyProof.Rows.kind_sorted PyProof.Rows.plain_sorted PyProof.Rows.entry_sorted (PyProof.Rows.args_sorted1 _) ?_
 unfold Builtin.«sorted»
 refine wpAny_bind (m:=checkCount "sorted" 1 1 _) (wpAny_pure ?_)
 refine wpAny_bind (hcoll fun h' tk us hk rv=>?_)
 have lu:us.length=ds.length:=by rw[lv,rv.length]
 have I1:Inv X pins σ H { s with heap:=h',toks:=tk }:=I.kept hk
 have er0:=JbQ I1 hC hF hys rs rv
 refine wpAny_bind (wpAny_newList ?_ (by rw[lu];exact hlen))
 have hoL:(h'.push (seqObj "list" us.toArray 0)).get? h'.objs.size=some (seqObj "list" us.toArray 0):=Heap.get?_push_size _ rfl
 show wpAny _ _ _ _ _ { s with heap:=h'.push (seqObj "list" us.toArray 0),toks:=tk }
 have er1:PySem.W.EachIs (fun (u:Value) (b:D × V)=>∃as,Reads (h'.push (seqObj "list" us.toArray 0)) u (pyO b.1) as∧h'.objs.size∉as) us (ds.zip vs) :=
  er0.mono fun u b ⟨as,r,l⟩=>⟨as,PyProof.Rows.Reads.keeps (fun _ _ e=>Heap.get?_push_of_some _ e) r,fun z=>Nat.lt_irrefl _ (l _ z)⟩
 have hz1:(ds.zip vs).map (fun b=>pyO b.1)=ds.map pyO:=by
  have e:=congrArg (List.map pyO) (Jcg lv)
  rw[List.map_map]at e;exact e
 have hal':PySem.W.AllAlike ((ds.zip vs).map (fun b=>pyO b.1)):=by rw[hz1];exact JcC hal
 have hso':PySem.W.Sortable ((ds.zip vs).map (fun b=>pyO b.1)):=by rw[hz1];exact Jcm hso
 have er2:PySem.W.EachIs (fun (u:Value) (b:D × V)=>∃as,Reads (PySem.W.sortingHeap (h'.push (seqObj "list" us.toArray 0)) h'.objs.size us) u (pyO b.1) as) us (ds.zip vs) :=
  PySem.W.each_keepBut (h':=PySem.W.sortingHeap (h'.push (seqObj "list" us.toArray 0)) h'.objs.size us) (fun _ _ hb q=>PySem.W.sortingHeap_old hb q) (fun o q=>by rw[hoL]at q;rw[←Option.some.inj q]) hal' er1
 have lz:(ds.zip vs).length=us.length:=by simp;omega
 have hun:∀b∈ds.zip vs,X.A.in1.in1.units+(pyO b.1).depth < cLine:=fun b hb=>by
  have h1:=of_decide_eq_true (List.all_eq_true.mp hsh b.1 (List.of_mem_zip hb).1)
  have:=hr.units
  show X.A.units+1+1+_ < _
  omega
 have er3:=er1.mono fun u b ⟨as,r,l⟩=>(⟨as,r⟩:∃as,Reads (h'.push (seqObj "list" us.toArray 0)) u (pyO b.1) as)
 have eo:=PySem.W.sortVals_data (R:=fun (u:Value) (b:D × V)=>RelV b.2 u) false (JdJ lv rv) er2 hal'
 refine wpAny_bind (wpAny_holding (wpAny_call_entry PyProof.Rows.slot_list_sort ⟨_,hoL,rfl⟩ PyProof.Rows.entry_list_sort
  (PySem.W.list_sort_vals (κ:=PySem.W.dataKind (PySem.W.sortingHeap (h'.push (seqObj "list" us.toArray 0)) h'.objs.size us) ((ds.zip vs).map (fun b=>pyO b.1))) (s:={ s with heap:=h'.push (seqObj "list" us.toArray 0),toks:=tk }) hoL
   (PySem.W.SortsAt.data (s:={ s with heap:=PySem.W.sortingHeap (h'.push (seqObj "list" us.toArray 0)) h'.objs.size us,toks:=tk }) (PySem.W.each_map (R:=fun v d=>∃as,Reads (PySem.W.sortingHeap (h'.push (seqObj "list" us.toArray 0)) h'.objs.size us) v d as) (fun b:D × V=>pyO b.1) er2) hal' hso' (PySem.W.bound_map hun)) (by rw[lu];exact hlen) ⟨.none,rfl,?_⟩)
  (PyProof.Rows.args_list_sort _)))
 have hout:=Jcz eo
 have hperm:=List.mergeSort_perm (ds.zip vs) (PySem.W.dataLe false fun b:D × V=>pyO b.1)
 have hreps:Reps C H (((ds.zip vs).mergeSort (PySem.W.dataLe false fun b:D × V=>pyO b.1)).map (·.1)) (((ds.zip vs).mergeSort (PySem.W.dataLe false fun b:D × V=>pyO b.1)).map (·.2)) [] :=
  JbL fun b hb=>JbG rs b (hperm.mem_iff.mp hb)
 have hms:((ds.zip vs).mergeSort (PySem.W.dataLe false fun b:D × V=>pyO b.1)).map (·.1)=ds.mergeSort leD:=by
  have hm:=List.map_mergeSort (r:=PySem.W.dataLe false fun b:D × V=>pyO b.1) (s:=leD) (f:=fun b:D × V=>b.1) (l:=ds.zip vs) (fun a _ b _=>rfl)
  rw[hm,Jcg lv]
 rw[hms]at hreps
 obtain⟨e',he'⟩:=PyProof.Rows.sortedHeap_at (vs:=us) (out:=(PySem.W.sortVals (PySem.W.dataKind (PySem.W.sortingHeap (h'.push (seqObj "list" us.toArray 0)) h'.objs.size us) ((ds.zip vs).map (fun b=>pyO b.1))) false us us).toArray) hoL
 have hl2:(((ds.zip vs).mergeSort (PySem.W.dataLe false fun b:D × V=>pyO b.1)).map (·.2)).length≤sizeLine:=by
  rw[List.length_map,hperm.length_eq,lz,lu];exact hlen
 refine wpAny_pure ⟨_,rfl,.ref h'.objs.size,upd H h'.objs.size (.lst (((ds.zip vs).mergeSort (PySem.W.dataLe false fun b:D × V=>pyO b.1)).map (·.2))),I1.laid (t':=tk) (fun b u e=>?_) (Nat.le_refl _)
  (show ObjOk X.prog X.w _ _ _ (.lst _) from ⟨hl2,_,e',hout,he'⟩),rfl,hq _ (I1.hok.fresh (Nat.le_refl _)) _ hreps⟩
 have hb:b < h'.objs.size:=Heap.lt_size e
 rw[PyProof.Rows.sortedHeap_old (Nat.ne_of_lt hb) (by rw[size_push'];exact Nat.lt_succ_of_lt hb)]
 exact Heap.get?_push_of_some _ e
end
end VS
namespace VS
open PySem L2 SeqAt PySem.Spec PyProof.Rows
section
variable {X:Cx} {C:Ctx} {H H':Hp} {pins:List (Addr × Obj)} {σ:L2.St} {s:Shared}
def keyD:Key→D
 | .inl i=>.int i
 | .inr s=>.str s
theorem JbD {C:Ctx} {H:Hp}:∀ks:List Key,Reps C H (ks.map keyD) (ks.map kV) []
 | []=>⟨rfl,rfl⟩
 | .inl i::ks=>⟨.int i,ks.map kV,[],[],rfl,⟨rfl,rfl⟩,JbD ks,rfl⟩
 | .inr i::ks=>⟨.str i,ks.map kV,[],[],rfl,⟨rfl,rfl⟩,JbD ks,rfl⟩
def Jgo:D→Option (List D)
 | .lst _ ds=>some ds
 | .tup ds=>some ds
 | .dct _ ks _=>some (ks.map keyD)
 | _=>none
def YE:List D→Option D
 | [d]=>(Jgo d).bind fun ds=>if JcH ds then some (.lst .m (ds.mergeSort leD)) else none
 | _=>none
theorem sortOk_imms {ds:List D} (h:JcH ds=true):imms ds=true:=by
 unfold JcH at h
 simp only[Bool.and_eq_true]at h
 exact h.1.1.1.1.2
theorem JaD.lst' {C:Ctx} {H:Hp} {es:List D} {Q:VK} (k:JaD C H (.lst .m es) Q) {vs:List V} (rs:Reps C H es vs []) {p:Addr} (hp:H p=none):Q (.ref p) (upd H p (.lst vs)) :=
 k (.ref p) _ [p] (Le.new hp) ⟨p,vs,[p],[],rfl,⟨upd_same,rfl⟩,rs.le (Le.new hp),.inl rfl,rfl⟩ (by simp) (by simpa using hp)
theorem Jba {k:Nat} (hr:Room k X.A) (hcalm:X.calm=true):ODL X (.builtin "sorted") YE:=by
 intro pins s σ H xs us Q I rv ⟨C,ds0,fx,d,hC,hF,rs,e,kk⟩
 unfold YE at e
 split at e
 case h_2=>cases e
 rename_i d0
 obtain⟨v,rfl,r⟩:=Zn rs
 obtain⟨u,rfl,ru⟩:=vals1 rv
 obtain⟨ds,hco,e⟩:=Option.bind_eq_some_iff.mp e
 split at e
 case isFalse=>cases e
 rename_i hok
 cases e
 have hi:=sortOk_imms hok
 have fin:∀p,H p=none→∀vs',Reps C H (ds.mergeSort leD) vs' []→Q (.ref p) (upd H p (.lst vs')):=fun p hp vs' rs'=>kk.lst' rs' hp
 cases d0 with
 | lst g es =>
  cases hco
  obtain⟨a,vs,f,rfl,q,rz⟩:=JF hC hF r
  have z:=rz.imm hi
  subst z
  cases (show u=Value.ref a from ru)
  obtain⟨its,rv2,⟨o,n,ho,hc,hdi,hd⟩,hz⟩:=I.list q
  refine Jct I hr hC hF hok rz (fun hR=>?_) fin
  exact wpAny_collect_seq a (T := "list") (.inl rfl) ho hc hd (fun h' hk=>hR h' s.toks its hk rv2) (by rw[List.size_toArray,←rv2.length];exact hz)
 | tup es =>
  cases hco
  obtain⟨a,vs,rfl,q,rz⟩:=Yg hC r
  have z:=rz.imm hi
  subst z
  cases (show u=Value.ref a from ru)
  obtain⟨its,rv2,⟨o,ho,hc,n,hd⟩,hz⟩:=I.tuple q
  refine Jct I hr hC hF hok rz (fun hR=>?_) fin
  exact wpAny_collect_seq a (T := "tuple") (.inr rfl) ho hc hd (fun h' hk=>hR h' s.toks its hk rv2) (by rw[List.size_toArray,←rv2.length];exact hz)
 | dct g ks es =>
  cases hco
  obtain⟨a,kvs,f1,f2,rfl,hd,hks,_,_⟩:=JbB hF r
  cases (show u=Value.ref a from ru)
  obtain⟨z,lo,vs,rel,dd⟩:=dk_rd I.hok hd
  obtain⟨ep,hat⟩:=dd.dictAt
  have h16:vs.length≤sizeLine:=by rw[←rel.length];exact z
  have hkv:kvs.map (·.1)=vs.map (·.1):=rel.keys
  have hmap:vs.map (fun p=>kV p.1)=ks.map kV:=by
   rw[←hks,hkv,List.map_map];rfl
  refine Jct I hr hC hF hok (JbD ks) (fun hR=>?_) fin
  refine PySem.W.kdu_collect (PySem.W.kdl_dict (knd:=mixKind X.prog X.w) (kvs:=vs) (ep:=ep) lo) (I.ok.hd hcalm) hat h16 fun h' tk acc hk hacc=>hR h' tk _ hk ?_
  rw[←hmap]
  exact keys_at (by rw[Array.length_toList];exact hacc.1) fun j v e=>hacc.2 j v (by rw[←Array.getElem?_toList];exact e)
 | _=>cases hco
def Jdl:PyData→Bool
 | .none=>false
 | _=>true
def JeB (f:PyData→PyData→Bool):D→D→Option D:=fun x y=>match x.py,y.py with
 | some a,some b=>if PySem.W.alike a b∧decide (a.depth≤20)=true∧Jdl a=true then some (.bl (f a b)) else none
 | _,_=>none
theorem Jdk {op:CmpOp} {f:PyData→PyData→Bool} {k:Nat} (hr:Room k X.A)
  (h:∀{A:Around} {E:Value→Shared→Prop} {s:Shared} {a b:Value} {da db:PyData} {as bs:List Addr} {Q:Value→Shared→Prop},Reads s.heap a da as→Reads s.heap b db bs→PySem.W.alike da db=true→da≠.none→A.units+min da.depth db.depth < cLine→Q (.bool (f da db)) s→wpAny (model X.prog X.w) A (compareOp op a b) Q E s) :
  OD2 X (compareOp op) (JeB f):=by
 intro pins s σ H x y v u Q I rx ry ⟨C,dx,dy,fx,fy,d,hC,hF,r1,r2,e,kk⟩
 unfold JeB at e
 split at e
 case h_2=>cases e
 rename_i a b ha hb
 split at e
 case isFalse=>cases e
 rename_i hc
 cases e
 obtain⟨as,ra,_⟩:=Jar I hC hF ha r1 rx
 obtain⟨bs,rb,_⟩:=Jar I hC hF hb r2 ry
 refine h ra rb hc.1 (fun z=>by subst z;exact absurd hc.2.2 (by simp[Jdl])) (by
  have h1:=of_decide_eq_true hc.2.1
  have:=hr.units
  have:min a.depth b.depth≤a.depth:=Nat.min_le_left _ _
  omega) ⟨.bl _,H,I,rfl,kk.here ⟨rfl,rfl⟩⟩
def pLtG:D→D→Option D:=orP2 pLtI (JeB fun a b=>PySem.W.dataLt a b)
def pGtG:D→D→Option D:=orP2 pGtI (JeB fun a b=>PySem.W.dataLt b a)
def pLeG:D→D→Option D:=orP2 pLeI (JeB fun a b=>!PySem.W.dataLt b a)
def pGeG:D→D→Option D:=orP2 pGeI (JeB fun a b=>!PySem.W.dataLt a b)
theorem JcJ {k:Nat} (hr:Room k X.A):OD2 X (compareOp .Lt) pLtG:=od_ltI.or (Jdk hr fun a b c d e f=>PySem.W.lt_data a b c d e f)
theorem Jgd {k:Nat} (hr:Room k X.A):OD2 X (compareOp .Gt) pGtG:=od_gtI.or (Jdk hr fun a b c d e f=>PySem.W.gt_data a b c d e f)
theorem Jh4 {k:Nat} (hr:Room k X.A):OD2 X (compareOp .LtE) pLeG:=od_leI.or (Jdk hr fun a b c d e f=>PySem.W.le_data a b c d e f)
theorem od_geG {k:Nat} (hr:Room k X.A):OD2 X (compareOp .GtE) pGeG:=od_geI.or (Jdk hr fun a b c d e f=>PySem.W.ge_data a b c d e f)
def QE:List D→Option D
 | [.dct _ ks _]=>some (.lst .m (ks.map keyD))
 | ds=>JfP ds
theorem Jec (hcalm:X.calm=true):ODL X (.type "list") QE:=by
 intro pins s σ H xs us Q I rv ⟨C,ds0,fx,d,hC,hF,rs,e,kk⟩
 unfold QE at e
 split at e
 ·rename_i g ks ds
  cases e
  obtain⟨v,rfl,r⟩:=Zn rs
  obtain⟨a,kvs,f1,f2,rfl,hd,hks,_,_⟩:=JbB hF r
  refine call_listD hcalm pins s σ H _ us Q I rv ⟨a,kvs,rfl,hd,fun p hp=>?_⟩
  have:(kvs.map fun kv=>kV kv.1)=ks.map kV:=by rw[←hks,List.map_map];rfl
  rw[this]
  exact kk.lst' (JbD ks) hp
 ·exact od_list pins s σ H xs us Q I rv ⟨C,ds0,fx,d,hC,hF,rs,e,kk⟩
def Jaw:List D→Option D
 | [.dct _ ks ds]=>if imms ds then some (.dct .m ks ds) else none
 | ds=>Jd1 ds
theorem Jd3 (hcalm:X.calm=true):ODL X (.type "dict") Jaw:=by
 intro pins s σ H xs us Q I rv ⟨C,ds0,fx,d,hC,hF,rs,e,kk⟩
 unfold Jaw at e
 split at e
 ·rename_i g ks ds
  split at e
  case isFalse=>cases e
  rename_i hi
  cases e
  obtain⟨v,rfl,r⟩:=Zn rs
  obtain⟨a,kvs,f1,f2,rfl,n,hks,rz,_,_⟩:=r
  have z:=rz.imm hi
  subst z
  have hd:Rd H a (.dK kvs):=(n.rd hF).rd fun xs=>by intro z;cases z
  refine call_dictD pins s σ H _ us Q I rv ⟨a,kvs,rfl,hd,fun p hp=>?_⟩
  exact kk (.ref p) _ [p] (Le.new hp) ⟨p,kvs,[p],[],rfl,⟨upd_same,rfl⟩,hks,rz.le (Le.new hp),.inl rfl,rfl⟩ (by simp) (by simpa using hp)
 ·exact od_dictP hcalm pins s σ H xs us Q I rv ⟨C,ds0,fx,d,hC,hF,rs,e,kk⟩
mutual
def JbJ:D→Bool
 | .tup ds=>noLsts ds
 | .non=>true
 | .bl _=>true
 | .int _=>true
 | .str _=>true
 | _=>false
def noLsts:List D→Bool
 | []=>true
 | d::ds=>JbJ d && noLsts ds
end
mutual
theorem JhK:∀{d e:D} {y:PyData},JbJ d=true→JbJ e=true→d.py=some y→e.py=some y→d=e
 | .non,e,y,_,he,h1,h2=>by
  cases h1
  cases e<;>simp[D.py,JbJ]at *
 | .bl b,e,y,_,he,h1,h2=>by
  cases h1
  cases e<;>simp[D.py,JbJ]at *
  all_goals first | exact h2.symm | skip
 | .int b,e,y,_,he,h1,h2=>by
  cases h1
  cases e<;>simp[D.py,JbJ]at *
  all_goals first | exact h2.symm | skip
 | .str b,e,y,_,he,h1,h2=>by
  cases h1
  cases e<;>simp[D.py,JbJ]at *
  all_goals first | exact h2.symm | skip
 | .tup ds,e,y,hd,he,h1,h2=>by
  obtain⟨ys,hy,rfl⟩:=Option.map_eq_some_iff.mp h1
  cases e with
  | tup es =>
   obtain⟨zs,hz,e⟩:=Option.map_eq_some_iff.mp h2
   cases e
   rw[pys_inj (ds:=ds) (es:=es) hd he hy hz]
  | lst g es=>cases he
  | _=>simp[D.py]at h2
 | .exc _ _ _,_,_,h,_,_,_=>by cases h
 | .ty _,_,_,h,_,_,_=>by cases h
 | .ftu _,_,_,h,_,_,_=>by cases h
 | .lst _ _,_,_,h,_,_,_=>by cases h
 | .dct _ _ _,_,_,h,_,_,_=>by cases h
 | .obj _ _ _ _,_,_,h,_,_,_=>by cases h
theorem pys_inj:∀{ds es:List D} {ys:List PyData},noLsts ds=true→noLsts es=true→pys ds=some ys→pys es=some ys→ds=es
 | [],es,ys,_,_,h1,h2=>by
  cases h1
  cases es with
  | nil=>rfl
  | cons e es =>
   obtain⟨y,hy,h2⟩:=Option.bind_eq_some_iff.mp h2
   obtain⟨ys',hys,e⟩:=Option.map_eq_some_iff.mp h2
   cases e
 | d::ds,es,ys,hd,he,h1,h2=>by
  obtain⟨y,hy,h1⟩:=Option.bind_eq_some_iff.mp h1
  obtain⟨ys',hys,rfl⟩:=Option.map_eq_some_iff.mp h1
  cases es with
  | nil=>cases h2
  | cons e es =>
   obtain⟨y2,hy2,h2⟩:=Option.bind_eq_some_iff.mp h2
   obtain⟨ys2,hys2,e2⟩:=Option.map_eq_some_iff.mp h2
   cases e2
   have hd:=Bool.and_eq_true_iff.mp hd
   have he:=Bool.and_eq_true_iff.mp he
   rw[JhK hd.1 he.1 hy hy2,pys_inj hd.2 he.2 hys hys2]
end
def Jbu (f:PyData→PyData→Bool):List D→D→D
 | [],a=>a
 | y::ds,a=>Jbu f ds (if f (pyO y) (pyO a) then y else a)
def Jf1 (ds:List D):Bool:=(pys ds).isSome && noLsts ds && JcS ds && Jbp ds && ds.all fun d=>Jdl (pyO d)
def JiP:List D→Option D
 | [.lst _ (d::ds)]=>if Jf1 (d::ds) then some (Jbu (fun y a=>PySem.W.dataLt y a) ds d) else none
 | _=>none
theorem JdE (f:PyData→PyData→Bool):∀(ds:List D) (a:D),Jbu f ds a=a∨Jbu f ds a∈ds
 | [],a=>.inl rfl
 | y::ds,a=>by
  unfold Jbu
  split
  ·rcases JdE f ds y with z | z
   ·exact .inr (by rw[z];simp)
   ·exact .inr (by simp[z])
  ·rcases JdE f ds a with z | z
   ·exact .inl z
   ·exact .inr (by simp[z])
theorem JgW (f:PyData→PyData→Bool):∀(ds:List D) (a:D),pyO (Jbu f ds a)=(ds.map pyO).foldl (fun a y=>if f y a then y else a) (pyO a)
 | [],a=>rfl
 | y::ds,a=>by
  unfold Jbu
  rw[JgW f ds,List.map_cons,List.foldl_cons]
  split<;>rfl
theorem noLst_imm:∀{d:D},JbJ d=true→d.imm=true:=by
 have key:∀n:Nat,∀d:D,sizeOf d≤n→JbJ d=true→d.imm=true:=by
  intro n
  induction n with
  | zero=>intro d h;cases d<;>simp at h
  | succ n ih =>
   intro d h hd
   cases d with
   | tup ds =>
    have h2:noLsts ds=true:=hd
    show imms ds=true
    have h3:∀d∈ds,sizeOf d≤n:=fun d hd=>by
     have:=List.sizeOf_lt_of_mem hd
     simp at h;omega
    clear h hd
    induction ds with
    | nil=>rfl
    | cons d ds ih2 =>
     have:=Bool.and_eq_true_iff.mp h2
     simp only[imms,ih d (h3 d (by simp)) this.1,ih2 this.2 fun d hd=>h3 d (by simp[hd]),Bool.and_self]
   | lst _ _=>cases hd
   | dct _ _ _=>cases hd
   | obj _ _ _ _=>cases hd
   | exc _ _ _=>cases hd
   | ftu _=>cases hd
   | _=>rfl
 exact fun {d} h=>key _ d (Nat.le_refl _) h
theorem Ja7:∀{ds:List D} {d:D},noLsts ds=true→d∈ds→JbJ d=true
 | d0::ds,d,h,hd=>by
  have:=Bool.and_eq_true_iff.mp h
  rcases List.mem_cons.mp hd with z | z
  ·subst z;exact this.1
  ·exact Ja7 this.2 z
theorem noLsts_imms {ds:List D} (h:noLsts ds=true):imms ds=true:=by
 rw[Jcl,List.all_eq_true]
 exact fun d hd=>noLst_imm (Ja7 h hd)
end
end VS
namespace VS
open PySem L2 SeqAt PySem.Spec PyProof.Rows
section
variable {X:Cx} {C:Ctx} {H H':Hp} {pins:List (Addr × Obj)} {σ:L2.St} {s:Shared}
def JfW (ds:List D):Bool:=match pys ds with
 | some ys=>decide (PyData.depthAll ys≤20)
 | none=>false
theorem best_of (I:Inv X pins σ H s) (hC:C.At X) (hF:Fr C H) {f:PyData→PyData→Bool} {d0:D} {ds:List D} {vs:List V} {fp:List Addr} {its:List Value} {h':Heap} {i:Nat} {v:Value} {bs:List Addr} (hok:Jf1 (d0::ds)=true) (rs:Reps C H (d0::ds) vs fp) (rv:Vals vs its)
  (hk:∀b o,s.heap.get? b=some o→h'.get? b=some o) (hi:its[i]?=some v) (hr:Reads h' v ((ds.map pyO).foldl (fun a y=>if f y a then y else a) (pyO d0)) bs):∃w,RelV w v∧Rep C H (Jbu f ds d0) w []:=by
 unfold Jf1 at hok
 simp only[Bool.and_eq_true]at hok
 obtain⟨⟨⟨⟨h1,h2⟩,h3⟩,h4⟩,h5⟩:=hok
 obtain⟨ys,hys⟩:=Option.isSome_iff_exists.mp h1
 have him:=noLsts_imms h2
 have z:=rs.imm him
 subst z
 obtain⟨w,hw,rw'⟩:=Jby rv hi
 obtain⟨d,hd,rd⟩:=Qn rs him hw
 have hdm:=List.mem_of_getElem? hd
 have hbm:Jbu f ds d0∈d0::ds:=by
  rcases JdE f ds d0 with z | z
  ·rw[z];simp
  ·simp[z]
 obtain⟨as,ra,_⟩:=Jar I hC hF (Jdo hys hdm) rd rw'
 rw[←JgW]at hr
 have hal:PySem.W.alike (pyO d) (pyO (Jbu f ds d0))=true:=List.all_eq_true.mp (List.all_eq_true.mp h3 d hdm) _ hbm
 have e:=PySem.W.alike_unique _ _ v _ _ hal (PyProof.Rows.Reads.keeps hk ra) hr
 have hdp:=Jdo hys hdm
 rw[e]at hdp
 have:d=Jbu f ds d0:=JhK (Ja7 h2 hdm) (Ja7 h2 hbm) hdp (Jdo hys hbm)
 subst this
 exact⟨w,rw',rd⟩
theorem minOk_alike {ds:List D} {ys:List PyData} (h:Jf1 ds=true) (hy:pys ds=some ys):PySem.W.AlikeAll ys:=by
 unfold Jf1 at h
 simp only[Bool.and_eq_true]at h
 have e:=JeU hy
 subst e
 refine⟨fun x hx y hy=>?_,fun x hx e=>?_⟩
 ·exact JcC h.1.1.2 x hx y hy
 ·obtain⟨d,hd,rfl⟩:=List.mem_map.mp hx
  have:=List.all_eq_true.mp h.2 d hd
  rw[e]at this
  exact absurd this (by simp[Jdl])
def JfK:List D→Option D:=fun ds=>match ds with
 | [.lst g (d::es)]=>if JfW (d::es) then JiP [.lst g (d::es)] else none
 | ds=>JgD ds
theorem Jgv {k:Nat} (hr:Room k X.A) (hcalm:X.calm=true):ODL X (.builtin "min") JfK:=by
 intro pins s σ H xs us Q I rv ⟨C,ds0,fx,dr,hC,hF,rs,e,kk⟩
 unfold JfK at e
 split at e
 ·rename_i g d es
  split at e
  case isFalse=>cases e
  rename_i hsh
  unfold JiP at e
  split at e
  case h_2=>rename_i hh;exact absurd rfl (hh g d es)
  rename_i g' d' es' he
  cases he
  split at e
  case isFalse=>cases e
  rename_i hok
  cases e
  obtain⟨v,rfl,r⟩:=Zn rs
  obtain⟨a,vs,f,rfl,q,rz⟩:=JF hC hF r
  obtain⟨u,rfl,ru⟩:=vals1 rv
  cases (show u=Value.ref a from ru)
  obtain⟨its,rv2,hl,hz⟩:=I.list q
  unfold JfW at hsh
  split at hsh
  case h_2=>cases hsh
  rename_i ys hys
  have e1:=JeU hys
  obtain⟨as,ra,_⟩:=readsAll_rep I hC hF hys rz rv2
  subst e1
  refine PySem.W.min_list_data (x:=pyO d) (xs:=es.map pyO) (as:=as) (I.ok.hd hcalm) hl.isList (by simpa using ra) (minOk_alike hok hys) (by
   have h1:=of_decide_eq_true hsh
   have:=hr.units
   simp only[List.map_cons]at h1
   omega) fun i v h' tk bs hv hrd hk=>?_
  obtain⟨w,h1,h2⟩:=best_of (f:=fun y a=>PySem.W.dataLt y a) I hC hF hok rz rv2 hk (by simpa using hv) hrd
  exact⟨w,H,I.kept hk,h1,kk.here h2⟩
 ·exact od_min2 hcalm pins s σ H xs us Q I rv ⟨C,ds0,fx,dr,hC,hF,rs,e,kk⟩
end
end VS
namespace VS
open PySem L2 SeqAt PySem.Spec PyProof.Rows
section
variable {X:Cx} {W:WX} {Ma Mb Mc V1 V2 V3 Rs R1 R2 R3:List Nat} {e f a b c tg o:Expr} {es:List Expr} {ca cb cc:CE} {cs:CA} {ct:CT} {pos p apos cpos:Pos} {cl:CL} {i:Nat} {st:Stmt}
variable {C:Ctx} {H H':Hp} {pins:List (Addr × Obj)} {σ:L2.St} {s:Shared}
def pInS:D→D→Option D
 | .str a,.str b=>(match a.cps.toList with
  | [c]=>some (.bl (decide (c∈b.cps.toList)))
  | _=>none)
 | _,_=>none
theorem od_inS:OD2 X (compareOp .In) pInS:=by
 refine OD2.of op_in_sign fun x y H Q ⟨C,dx,dy,fx,fy,d,hC,hF,r1,r2,e,k⟩=>?_
 unfold pInS at e
 split at e
 case h_2=>cases e
 rename_i a b
 split at e
 case h_2=>cases e
 rename_i cc hcc
 cases e
 obtain⟨rfl,_⟩:=r1
 obtain⟨rfl,_⟩:=r2
 refine⟨cc,b,?_,rfl,k.here ⟨rfl,rfl⟩⟩
 have:a.cps=#[cc]:=by
  apply Array.toList_inj.mp;simpa using hcc
 cases a
 simp at this
 subst this;rfl
def pInW:D→D→Option D:=orP2 pInS pIn
theorem QH {k:Nat} (hr:Room k X.A):OD2 X (compareOp .In) pInW:=od_inS.or (od_in hr)
end
end VS
namespace VS
open PySem L2 SeqAt PySem.Spec PyProof.Rows
def Ja3 (ds:List D):Bool:=(pys ds).isSome && JcS ds && JaS ds && Jbp ds && decide (ds.length≤sizeLine)
section
variable {X:Cx} {C:Ctx} {H H':Hp} {pins:List (Addr × Obj)} {σ:L2.St} {s:Shared}
theorem JfO:∀{ds:List D} {vs:List V} {fp:List Addr},Reps C H ds vs fp→Reps C H ((ds.zip vs).map (·.1)) ((ds.zip vs).map (·.2)) fp
 | [],vs,fp,⟨e,e2⟩=>by subst e e2;exact⟨rfl,rfl⟩
 | d::ds,vs,fp,⟨v,vs',f1,f2,e,r,rs,e2⟩=>by subst e e2;exact⟨_,_,f1,f2,rfl,r,JfO rs,rfl⟩
theorem reps_perm {bs cs:List (D × V)} (h:bs.Perm cs):∀{fp:List Addr},Reps C H (bs.map (·.1)) (bs.map (·.2)) fp→∃fp',fp'.Perm fp∧Reps C H (cs.map (·.1)) (cs.map (·.2)) fp':=by
 induction h with
 | nil=>intro fp r;exact⟨fp,.refl _,r⟩
 | cons b _ ih =>
  rintro fp ⟨v,vs',f1,f2,e,r,rs,e2⟩
  cases e;subst e2
  obtain⟨f3,h1,h2⟩:=ih rs
  exact⟨f1++f3,h1.append_left f1,_,_,f1,f3,rfl,r,h2,rfl⟩
 | swap b c l =>
  rintro fp ⟨v,vs',f1,f2,e,r,⟨v2,vs2,f3,f4,e3,r3,rs,e4⟩,e2⟩
  cases e;cases e3;subst e2 e4
  refine⟨f3++(f1++f4),?_,_,_,f3,f1++f4,rfl,r3,⟨_,_,f1,f4,rfl,r,rs,rfl⟩,rfl⟩
  rw[←List.append_assoc,←List.append_assoc]
  exact List.perm_append_comm.append_right f4
 | trans _ _ h1 h2 =>
  intro fp r
  obtain⟨f1,p1,r1⟩:=h1 r
  obtain⟨f2,p2,r2⟩:=h2 r1
  exact⟨f2,p2.trans p1,r2⟩
theorem sorted_byP (I:Inv X pins σ H s) {k:Nat} (hr:Room k X.A) (hC:C.At X) (hF:Fr C H) {u:Value} {ds:List D} {vs:List V} {Q:VK} {fp:List Addr} (hok:Ja3 ds=true) (rs:Reps C H ds vs fp)
  (hcoll:∀{R:List Value→Shared→Prop} {E:Value→Shared→Prop},(∀h' tk us,(∀b o,s.heap.get? b=some o→h'.get? b=some o)→Vals vs us→R us { s with heap:=h',toks:=tk })→wpAny (model X.prog X.w) X.A.in1 (collect u) R E s)
  (hq:∀p,H p=none→∀vs' fp',Reps C H (ds.mergeSort leD) vs' fp'→fp'.Perm fp→Q (.ref p) (upd H p (.lst vs'))):wpAny (model X.prog X.w) X.A (call (.builtin "sorted") [u]) (EP X pins σ Q) X.xe s:=by
 obtain⟨h6,hlen⟩:=Bool.and_eq_true_iff.mp hok
 obtain⟨h5,hsh⟩:=Bool.and_eq_true_iff.mp h6
 obtain⟨h4,hso⟩:=Bool.and_eq_true_iff.mp h5
 obtain⟨h2,hal⟩:=Bool.and_eq_true_iff.mp h4
 obtain⟨ys,hys⟩:=Option.isSome_iff_exists.mp h2
 have hlen:=of_decide_eq_true hlen
 have lv:ds.length=vs.length:=Jz rs
 refine Calls.call_function_entry PyProof.Rows.kind_sorted PyProof.Rows.plain_sorted PyProof.Rows.entry_sorted (PyProof.Rows.args_sorted1 _) ?_
 unfold Builtin.«sorted»
 refine wpAny_bind (m:=checkCount "sorted" 1 1 _) (wpAny_pure ?_)
 refine wpAny_bind (hcoll fun h' tk us hk rv=>?_)
 have lu:us.length=ds.length:=by rw[lv,rv.length]
 have I1:Inv X pins σ H { s with heap:=h',toks:=tk }:=I.kept hk
 have er0:=JbQ I1 hC hF hys rs rv
 refine wpAny_bind (wpAny_newList ?_ (by rw[lu];exact hlen))
 have hoL:(h'.push (seqObj "list" us.toArray 0)).get? h'.objs.size=some (seqObj "list" us.toArray 0):=Heap.get?_push_size _ rfl
 show wpAny _ _ _ _ _ { s with heap:=h'.push (seqObj "list" us.toArray 0),toks:=tk }
 have er1:PySem.W.EachIs (fun (u:Value) (b:D × V)=>∃as,Reads (h'.push (seqObj "list" us.toArray 0)) u (pyO b.1) as∧h'.objs.size∉as) us (ds.zip vs) :=
  er0.mono fun u b ⟨as,r,l⟩=>⟨as,PyProof.Rows.Reads.keeps (fun _ _ e=>Heap.get?_push_of_some _ e) r,fun z=>Nat.lt_irrefl _ (l _ z)⟩
 have hz1:(ds.zip vs).map (fun b=>pyO b.1)=ds.map pyO:=by
  have e:=congrArg (List.map pyO) (Jcg lv)
  rw[List.map_map]at e;exact e
 have hal':PySem.W.AllAlike ((ds.zip vs).map (fun b=>pyO b.1)):=by rw[hz1];exact JcC hal
 have hso':PySem.W.Sortable ((ds.zip vs).map (fun b=>pyO b.1)):=by rw[hz1];exact Jcm hso
 have er2:PySem.W.EachIs (fun (u:Value) (b:D × V)=>∃as,Reads (PySem.W.sortingHeap (h'.push (seqObj "list" us.toArray 0)) h'.objs.size us) u (pyO b.1) as) us (ds.zip vs) :=
  PySem.W.each_keepBut (h':=PySem.W.sortingHeap (h'.push (seqObj "list" us.toArray 0)) h'.objs.size us) (fun _ _ hb q=>PySem.W.sortingHeap_old hb q) (fun o q=>by rw[hoL]at q;rw[←Option.some.inj q]) hal' er1
 have lz:(ds.zip vs).length=us.length:=by simp;omega
 have hun:∀b∈ds.zip vs,X.A.in1.in1.units+(pyO b.1).depth < cLine:=fun b hb=>by
  have h1:=of_decide_eq_true (List.all_eq_true.mp hsh b.1 (List.of_mem_zip hb).1)
  have:=hr.units
  show X.A.units+1+1+_ < _
  omega
 have er3:=er1.mono fun u b ⟨as,r,l⟩=>(⟨as,r⟩:∃as,Reads (h'.push (seqObj "list" us.toArray 0)) u (pyO b.1) as)
 have eo:=PySem.W.sortVals_data (R:=fun (u:Value) (b:D × V)=>RelV b.2 u) false (JdJ lv rv) er2 hal'
 refine wpAny_bind (wpAny_holding (wpAny_call_entry PyProof.Rows.slot_list_sort ⟨_,hoL,rfl⟩ PyProof.Rows.entry_list_sort
  (PySem.W.list_sort_vals (κ:=PySem.W.dataKind (PySem.W.sortingHeap (h'.push (seqObj "list" us.toArray 0)) h'.objs.size us) ((ds.zip vs).map (fun b=>pyO b.1))) (s:={ s with heap:=h'.push (seqObj "list" us.toArray 0),toks:=tk }) hoL
   (PySem.W.SortsAt.data (s:={ s with heap:=PySem.W.sortingHeap (h'.push (seqObj "list" us.toArray 0)) h'.objs.size us,toks:=tk }) (PySem.W.each_map (R:=fun v d=>∃as,Reads (PySem.W.sortingHeap (h'.push (seqObj "list" us.toArray 0)) h'.objs.size us) v d as) (fun b:D × V=>pyO b.1) er2) hal' hso' (PySem.W.bound_map hun)) (by rw[lu];exact hlen) ⟨.none,rfl,?_⟩)
  (PyProof.Rows.args_list_sort _)))
 have hout:=Jcz eo
 have hperm:=List.mergeSort_perm (ds.zip vs) (PySem.W.dataLe false fun b:D × V=>pyO b.1)
 obtain⟨fp',hpf,hreps⟩:=reps_perm hperm.symm (JfO rs)
 have hms:((ds.zip vs).mergeSort (PySem.W.dataLe false fun b:D × V=>pyO b.1)).map (·.1)=ds.mergeSort leD:=by
  have hm:=List.map_mergeSort (r:=PySem.W.dataLe false fun b:D × V=>pyO b.1) (s:=leD) (f:=fun b:D × V=>b.1) (l:=ds.zip vs) (fun a _ b _=>rfl)
  rw[hm,Jcg lv]
 rw[hms]at hreps
 obtain⟨e',he'⟩:=PyProof.Rows.sortedHeap_at (vs:=us) (out:=(PySem.W.sortVals (PySem.W.dataKind (PySem.W.sortingHeap (h'.push (seqObj "list" us.toArray 0)) h'.objs.size us) ((ds.zip vs).map (fun b=>pyO b.1))) false us us).toArray) hoL
 have hl2:(((ds.zip vs).mergeSort (PySem.W.dataLe false fun b:D × V=>pyO b.1)).map (·.2)).length≤sizeLine:=by
  rw[List.length_map,hperm.length_eq,lz,lu];exact hlen
 refine wpAny_pure ⟨_,rfl,.ref h'.objs.size,upd H h'.objs.size (.lst (((ds.zip vs).mergeSort (PySem.W.dataLe false fun b:D × V=>pyO b.1)).map (·.2))),I1.laid (t':=tk) (fun b u e=>?_) (Nat.le_refl _)
  (show ObjOk X.prog X.w _ _ _ (.lst _) from ⟨hl2,_,e',hout,he'⟩),rfl,hq _ (I1.hok.fresh (Nat.le_refl _)) _ _ hreps hpf⟩
 have hb:b < h'.objs.size:=Heap.lt_size e
 rw[PyProof.Rows.sortedHeap_old (Nat.ne_of_lt hb) (by rw[size_push'];exact Nat.lt_succ_of_lt hb)]
 exact Heap.get?_push_of_some _ e
end
section
variable {X:Cx} {W:WX} {M Rs:List Nat} {e o:Expr} {c:CE} {pos p apos mpos:Pos} {td:TE}
def Jd2 (c:CE):CE:=fun env=>(c env).bind fun d env=>match d with
 | .lst .m ds=>if Ja3 ds then .ok (.lst .m (ds.mergeSort leD)) env else .err
 | _=>.err
def JhU (X:Cx):List V→Hp→VK→Prop:=fun xs H Q=>∃(C:Ctx) (ds:List D) (vs:List V) (f2:List Addr) (a:Addr),C.At X∧Fr C H∧xs=[V.ref a]∧SqL X.K H a vs∧Reps C H ds vs f2∧Ja3 ds=true∧∀p,H p=none→∀vs' fp',Reps C H (ds.mergeSort leD) vs' fp'→fp'.Perm f2→Q (.ref p) (upd H p (.lst vs'))
theorem call_sortM {k:Nat} (hr:Room k X.A):CallR X (.builtin "sorted") (JhU X):=by
 intro pins s σ H xs us Q I rv h
 obtain⟨C,ds,vs,f2,a,hC,hF,ex,q,rz,hok,kk⟩:=h
 subst ex
 obtain⟨u,rfl,ru⟩:=vals1 rv
 cases (show u=Value.ref a from ru)
 obtain⟨its,rv2,⟨o,n,ho,hc,hdi,hd⟩,hz⟩:=I.list q
 refine sorted_byP I hr hC hF hok rz (fun hR=>?_) kk
 exact wpAny_collect_seq a (T := "list") (.inl rfl) ho hc hd (fun h' hk=>hR h' s.toks its hk rv2) (by rw[List.size_toArray,←rv2.length];exact hz)
theorem so_sortM {k:Nat} {pf:Pos} (hr:Room k X.A) (hg:Gl X "sorted") (hm:X.mg "sorted" = none) (h:SO X W M e c) (he:starEach [e] X.env=[(false,eval e X.env)]:=by rfl) :
  SO X W M (.Call (.Name "sorted" pf) [e] [] pos) (Jd2 c):=by
 obtain⟨t,pe,q⟩:=h.go
 refine⟨_,pe_callB (call_sortM (X:=X) hr) hg hm (by decide +kernel) (pa_cons pe pa_nil he) (by decide) (by decide) he (by rfl),fun C fs env σ H tf Q hC G po=>?_⟩
 show t σ H fun v H1=>JhU X [v] H1 Q
 refine q C fs env σ H tf _ hC G ?_
 unfold Jd2 at po
 cases e1:c env with
 | err=>rw[e1]at po;exact po
 | ex x env'=>rw[e1]at po;exact po
 | ok d env1 =>
  rw[e1]at po
  intro v fs1 H1 fp G1 s1 r
  cases d with
  | lst g ds =>
   cases g with
   | m =>
    cases hok:Ja3 ds with
    | false=>simp only[R.bind,hok]at po;exact po.elim
    | true =>
     have po':Ut W C M tf fs env σ H Q (.ok (.lst .m (ds.mergeSort leD)) env1):=by simpa only [R.bind,hok,if_true] using po
     obtain⟨a,vs,f1,f2,rfl,n,rz,_,rfl⟩:=r
     refine⟨C,ds,vs,f2,a,hC,G1.fr,rfl,by have:=(Nd.rd n G1.fr).sql;rwa[hC.1]at this,rz,hok,fun p hp vs' fp' rz' hpf=>?_⟩
     have le:Le H1 (upd H1 p (.lst vs')):=Le.new hp
     have G2:Good C fs1 env1 σ H1 (f2++tf):=G1.sub (by rw[List.append_assoc];exact List.sublist_append_right _ _)
     have G2':Good C fs1 env1 σ H1 (fp'++tf):=G2.perm (hpf.append_right tf)
     have G3:=G2'.new (o:=.lst vs') hp trivial
     refine po' (.ref p) fs1 _ (p::fp') (by simpa using G3) ?_ ⟨p,vs',[p],fp',rfl,⟨upd_same,rfl⟩,rz'.le le,.inl rfl,rfl⟩
     have:=s1.trans (Step.grow (M:=[]) G1.drop le)
     simpa using this
   | _=>exact po.elim
  | _=>exact po.elim
@[simp] theorem e_cSortM {env:Env}:Jd2 c env=(c env).bind fun d env=>match d with
 | .lst .m ds=>if Ja3 ds then .ok (.lst .m (ds.mergeSort leD)) env else .err
 | _=>.err:=(rfl)
end
end VS
namespace PySem
open Sem (wp)
open AutoSeq1 (wpAny_loadPart')
theorem meets_enumerate_newT (l:Addr) (items:Array Value) (n:Nat) (dct:Option Addr) (sl:Array (Option Value)) :
  Meets (Builtin.«enumerate.__new__» ⟨[.type "enumerate", .ref l],[]⟩) (fun _ R s=>s.heap.get? l=some { cls:=.type "tuple", dict:=dct,data:=.seq items n,slots:=sl } ∧
   R (.ok (.ret (.ref (s.heap.push { cls:=.type "tuple_iterator", data:=.fields #[.ref l,.int 0 0] }).objs.size)))
    { s with heap:=(s.heap.push { cls:=.type "tuple_iterator", data:=.fields #[.ref l,.int 0 0] }).push { cls:=.type "enumerate", data:=.fields #[.none,.bool false,.ref s.heap.objs.size,rawInt 0,.none,.none] } }) :=
 .of_wp fun prog w A R s h=>by
  obtain⟨hp,g,d,tk,os⟩:=s;obtain⟨hl,h⟩:=h
  have hsub:=sub_enumerate
  have hL:Heap.IsTuple (Shared.heap ⟨hp,g,d,tk,os⟩) l items:=⟨_,hl,rfl,n,rfl⟩
  wp_walk using wpAny_loadPart' hl
  refine wpAny_stack_any fun st=>wpAny_pure ?_
  split
  ·rename_i c _ _ _ _ _
   cases (c == Value.type "enumerate")
   ·wp_walk using wpAny_loadPart' hl,wpAny_pyIter_tuple hL
    exact⟨_,rfl,h⟩
   ·wp_walk using wpAny_loadPart' hl,wpAny_pyIter_tuple hL
    exact⟨_,rfl,h⟩
  ·wp_walk using wpAny_loadPart' hl,wpAny_pyIter_tuple hL
   exact⟨_,rfl,h⟩
section
variable {prog:Program} {w:World} {A:Around} {E:Value→Shared→Prop} {s:Shared}
theorem call_enumerate_tuple {l:Addr} {items:Array Value} {Q:Value→Shared→Prop} (hL:s.heap.IsTuple l items)
  (h:∀h',IsEnum h' (s.heap.objs.size+1) s.heap.objs.size 0 .none→h'.IsTupleIter s.heap.objs.size l 0→h'.objs.size=s.heap.objs.size+2 →
   (∀b o,s.heap.get? b=some o→h'.get? b=some o)→Q (.ref (s.heap.objs.size+1)) { s with heap:=h' }) :
  wpAny (model prog w) A (call (.type "enumerate") [.ref l]) Q E s:=by
 obtain⟨⟨c,dct,dt,sl⟩,hl,hc,n,hd⟩:=hL
 replace hc:c=.type "tuple" := hc
 replace hd:dt=.seq items n:=hd
 subst hc hd
 refine callType_new F.called_enumerate (by decide) (F.typeCall_enumerate_1 _) (F.newCall_enumerate_1 _) (fun obj=>F.args_object_init_2 obj _) F.entry_enumerate_new
  (meets_enumerate_newT l items n dct sl) ⟨hl,?_⟩
 have hz:(s.heap.push { cls:=.type "tuple_iterator", data:=.fields #[.ref l,.int 0 0] }).objs.size=s.heap.objs.size+1:=Heap.size_push ..
 show _∧_
 rw[hz]
 have he:IsEnum ((s.heap.push { cls:=.type "tuple_iterator", data:=.fields #[.ref l,.int 0 0] }).push
   { cls:=.type "enumerate", data:=.fields #[.none,.bool false,.ref s.heap.objs.size,rawInt 0,.none,.none] }) (s.heap.objs.size+1) s.heap.objs.size 0 .none:=by
  have:=Heap.get?_push_size (s.heap.push { cls:=.type "tuple_iterator", data:=.fields #[.ref l,.int 0 0] })
   (o:={ cls:=.type "enumerate", data:=.fields #[.none,.bool false,.ref s.heap.objs.size,rawInt 0,.none,.none] }) rfl
  rw[hz]at this;exact this
 refine⟨⟨_,he,rfl⟩,h _ he ⟨_,Heap.get?_push_of_some _ (Heap.get?_push_size _ rfl),rfl,rfl⟩ (by rw[Heap.size_push,hz]) fun b o x=>Heap.get?_push_of_some _ (Heap.get?_push_of_some _ x)⟩
end
end PySem
namespace VS
open PySem L2 SeqAt PySem.Spec PyProof.Rows
def IteT (K:PySem.W.Frag) (a:Addr):It :=
 ⟨fun i H=>∃(xs:List V) (x:V),SqT K H a xs∧xs[i]?=some x,fun i H v H'=>∃T x,v=.ref T∧H T=none∧H'=upd H T (.tup [.int (i:Nat),x])∧∀xs,SqT K H a xs→xs[i]?=some x,fun i H=>∃xs:List V,SqT K H a xs∧xs.length≤i⟩
theorem turn_enumT {P:Program} {w:World} {K:PySem.W.Frag} {elts:List Expr} {kk:Nat} {tpos:Pos} (a e it:Addr) :
  Turn P w K (.Tuple elts kk tpos) (IteT K a) [e,it] e (fun i h=>(∃old,IsEnum h e it ((i:Nat):Int) old)∧h.IsTupleIter it a i∧e≠it) where
 mem:=by simp
 obj:=fun i h st b hb=>by
  obtain⟨⟨old,he⟩,⟨o,ho,hc,hd⟩,_⟩:=st
  have e':b=e∨b=it:=by simpa using hb
  rcases e' with z | z
  ·rw[z];exact⟨_,he,fun v q=>nomatch q⟩
  ·rw[z];exact⟨o,ho,fun v q=>by rw[hd]at q;cases q⟩
 keep:=fun i h h' st k=>let ⟨⟨old,he⟩,hi,hne⟩:=st;⟨⟨old,k e (by simp) _ he⟩,hi.at fun o q=>k it (by simp) o q,hne⟩
 item:=by
  intro X hP hw hK hc i pins s σ H E I hf st hg
  subst hP hw hK
  obtain⟨⟨old,he⟩,hit,hne⟩:=st
  obtain⟨xs,x,hq,hx⟩:=hg
  obtain⟨its,rv,p,hz⟩:=I.tuple hq
  obtain⟨u,hu,ru⟩:=rv.get hx
  have hel:e < s.heap.objs.size:=Heap.lt_size he
  have hil:it < s.heap.objs.size:=by obtain⟨_,q,_⟩:=hit;exact Heap.lt_size q
  have pT:s.heap.IsTuple a its.toArray:=p
  have hai:a≠it:=by
   rintro rfl
   obtain⟨o1,q1,c1,_⟩:=hit
   obtain⟨o2,q2,c2,_⟩:=pT
   rw[q1]at q2;cases q2;rw[c1]at c2;exact absurd c2 (by decide)
  have hae:a≠e:=by
   rintro rfl
   obtain⟨o2,q2,c2,_⟩:=pT
   rw[he]at q2;cases q2;exact absurd (show Value.type "enumerate" = Value.type "tuple" from c2) (by decide)
  have hlt:i < its.toArray.size:=by
   have:=(List.getElem?_eq_some_iff.mp hu).1
   simpa using this
  have D:=PySem.Draws.tuple (prog:=X.prog) (w:=X.w) (A:=X.A.in1) (I.ok.hd hc) it a hai its.toArray
  refine wpAny_pyNext_enum_itemD D he ⟨hit,pT⟩ hlt hne (by simp[hne,Ne.symm hae]) fun x' h' tk hP ho hst hT hsz hk=>?_
  have hxu:x'=u:=by
   have:its.toArray[i]?=some x':=hP
   rw[List.getElem?_toArray,hu]at this
   exact(Option.some.inj this).symm
  subst hxu
  refine⟨_,rfl,wpAny_letOwnedTupleGo_enum (s:={ s with heap:=h',toks:=tk+1 }) ho fun h'' he' sb=>?_⟩
  have hT2:h''.get? s.heap.objs.size=some { cls:=.type "tuple", data:=.seq #[.int i tk,x'] }:=(sb.2 _ (Nat.ne_of_gt hel)).trans hT
  have new:ObjOk X.prog X.w (upd H s.heap.objs.size (.tup [.int (i:Nat),x])) h'' s.heap.objs.size (.tup [.int (i:Nat),x]) :=
   ⟨by show 2≤sizeLine;decide,[.int i tk,x'],.cons ⟨_,rfl⟩ (.cons ru .nil),⟨_,hT2,rfl,_,rfl⟩⟩
  have I1:Inv X pins σ (upd H s.heap.objs.size (.tup [.int (i:Nat),x])) { s with heap:=h'',toks:=tk+1 } :=
   I.turnedNew (ch:=[e,it]) (fun b ob hb q=>(sb.2 b (fun z=>hb (by simp[z]))).trans (hk b ob (fun z=>hb (by simp[z])) (fun z=>hb (by simp[z])) q)) hf (Nat.le_refl _) new
  refine⟨.ref s.heap.objs.size,_,I1,rfl,⟨_,x,rfl,I.hok.fresh (Nat.le_refl _),rfl,fun ys hy=>by rw[I.tuple_inj hy hq];exact hx⟩,⟨⟨x',?_⟩,hst.1.at fun o q=>(sb.2 it (Ne.symm hne)).trans q,hne⟩,fun b hb=>?_⟩
  ·have e1:((i+1:Nat):Int)=(i:Int)+1:=by omega
   rw[e1];exact he'
  ·have hb':b < s.heap.objs.size:=by
    have e':b=e∨b=it:=by simpa using hb
    rcases e' with z | z
    ·rw[z];exact hel
    ·rw[z];exact hil
   rw[upd_ne (Nat.ne_of_lt hb')]
   exact(hf b hb).1
 done:=by
  intro X hP hw hK hc i pins s σ H E I hf st hg
  subst hP hw hK
  obtain⟨⟨old,he⟩,hit,hne⟩:=st
  obtain⟨xs,hq,hx⟩:=hg
  obtain⟨its,rv,p,hz⟩:=I.tuple hq
  obtain⟨f0,f1,f2,f3,f4,f5⟩:=hf it (by simp)
  have pT:s.heap.IsTuple a its.toArray:=p
  have hl:=rv.length
  have hT:s.TypeIs (.ref e) "enumerate" := ⟨_,he,rfl⟩
  unfold pyNext
  refine wpAny_bind (wpAny_attempt (wpAny_callSpecial?_slot (name:=Str.ofString "__next__") hT F.slot_enumerate_next
   (wpAny_call_entry F.slot_enumerate_next hT F.entry_enumerate_next ?_ (F.args_enumerate_next_1 _))))
  show wpAny _ _ (field (.ref e) 2 >>= _) _ _ _
  refine wpAny_bind (wpAny_field he rfl (x:=.ref it) rfl ?_)
  refine wpAny_bind (PySem.wpAny_nextOf_tuple_end (I.ok.hd hc) hit pT (by simp;omega) fun h' x he' hx'=>?_)
  obtain⟨o,ho,hcc⟩:=hx'
  refine wpAny_bind (wpAny_isInstance (T := "StopIteration") (b:=true) ⟨o,ho,hcc⟩ isSubtype_stop ?_)
  exact wpAny_pure ⟨rfl,I.turned (t':=s.toks) (fun b o hb q=>he' b o hb q) f0 f1 f3 f4 f5⟩
 self:=fun A i s Q E st h=>let ⟨⟨_,he⟩,_⟩:=st;wpAny_pyIter_enum he h
def Jg7 (K:PySem.W.Frag) (ta:TA):TI:=fun σ H R=>ta σ H fun vs H1=>∃a xs,vs=[.ref a]∧SqT K H1 a xs∧R (IteT K a) H1
theorem pi_enumT {X:Cx} {e:Expr} {ta:TA} {p pos tpos:Pos} {elts:List Expr} {kk:Nat} (hg:Gl X "enumerate") (hm:X.mg "enumerate" = none) (ha:PA X [e] ta) (hs:starEach [e] X.env=[(false,eval e X.env)]:=by rfl) :
  PI X (.Tuple elts kk tpos) (.Call (.Name "enumerate" p) [e] [] pos) (Jg7 X.K ta):=by
 refine⟨fun pins s σ H R I h=>?_⟩
 refine Call_ (ld_blt I hg hm boot_enumerate (PyProof.Rows.callWith_type1 (thn (ha.run pos pins s σ H _ I h) fun us s1 ⟨vs,H1,I1,r1,q1⟩=>?_) hs rfl))
 obtain⟨a,xs,ex,hq,q⟩:=q1
 subst ex
 cases r1 with
 | cons r rr =>
  cases rr
  cases r
  obtain⟨its,rv,p',hz⟩:=I1.tuple hq
  refine PySem.call_enumerate_tuple (show s1.heap.IsTuple a its.toArray from p') fun h' he hit hsz hk=>wpAny_pyIter_enum he ?_
  have I2:Inv X pins σ H1 { s1 with heap:=h' }:=I1.kept (t':=s1.toks) hk
  refine⟨s1.heap.objs.size+1,[s1.heap.objs.size+1,s1.heap.objs.size],_,_,H1,rfl,I2,turn_enumT a (s1.heap.objs.size+1) s1.heap.objs.size,⟨⟨.none,he⟩,hit,Nat.succ_ne_self _⟩,fun b hb=>?_,q⟩
  have e':b=s1.heap.objs.size+1∨b=s1.heap.objs.size:=by simpa using hb
  have hle:s1.heap.objs.size≤b:=by
   rcases e' with z | z
   ·rw[z];exact Nat.le_add_right _ _
   ·rw[z];exact Nat.le_refl _
  exact I1.fpOk hle (I1.hok.fresh hle)
def Jbb (c:CE):CA:=fun env=>(c env).bind fun d env=>match d with
 | .lst _ ds=>if imms ds then .ok (numD 0 ds) env else .err
 | .tup ds=>if imms ds then .ok (numD 0 ds) env else .err
 | _=>.err
section
variable {X:Cx} {W:WX} {M Rs:List Nat} {e tg:Expr} {ca:CE} {pos p:Pos}
theorem walk_enumT {K:PySem.W.Frag} {a:Addr} {xs:List V}:Walk (IteT K a) xs.length (fun H=>SqT K H a xs) (YPair (fun i=>some (.int (i:Nat))) (fun i=>xs[i]?)):=by
 refine⟨fun i _ hi q=>⟨xs,xs[i],q,by simp[hi]⟩,fun _ q=>⟨xs,q,Nat.le_refl _⟩,fun i H v H' _ q y=>?_⟩
 obtain⟨T,x,h1,h2,h3,h4⟩:=y
 exact⟨T,.int (i:Nat),x,h1,h2,h3,rfl,h4 xs q⟩
def JeO (c:CE):CA:=fun env=>(c env).bind fun d env=>match d with
 | .tup ds=>if imms ds then .ok (numD 0 ds) env else .err
 | _=>.err
theorem si_enumT {elts:List Expr} {kk:Nat} {tpos p2:Pos} (hg:Gl X "enumerate") (hm:X.mg "enumerate" = none) (h:SB X W M Rs e ca) (hs:starEach [e] X.env=[(false,eval e X.env)]:=by rfl):SI X W M Rs (.Tuple elts kk tpos) (.Call (.Name "enumerate" p2) [e] [] pos) (JeO ca):=by
 obtain⟨t,p,q⟩:=h.go
 refine⟨Jg7 X.K (tCons t tNil),pi_enumT hg hm (pa_cons p pa_nil hs) hs,fun C fs env σ H tf Q hC G po=>?_⟩
 show t σ H fun x H1=>_
 refine q C fs env σ H tf _ hC G ?_
 unfold JeO at po
 cases e1:ca env with
 | err=>rw[e1]at po;exact po
 | ex x env'=>rw[e1]at po;exact po
 | ok d env1 =>
  rw[e1]at po
  intro v fs1 H1 fp own G1 s1 r1 i1
  cases d with
  | tup ds =>
   have po':Jd6 W C M Rs tf fs env σ H Q (if imms ds then .ok (numD 0 ds) env1 else .err):=po
   by_cases hi:imms ds=true
   ·rw[if_pos hi]at po'
    obtain⟨a,vs,rfl,sq,rs,kp⟩:=src_tup hC r1 hi
    refine⟨a,vs,rfl,sq,po' _ fs1 H1 fp own G1 s1 ⟨?_⟩ i1⟩
    rw[Jeb,Jz rs]
    refine Walk.mono (walk_enumT (K:=X.K) (a:=a) (xs:=vs)) (fun H2 h2=>(kp H2 h2).1) fun i H2 x H3 hi2 h2 ⟨T,y,z,e1,e2,e3,e4,e5⟩=>?_
    subst e1 e3
    cases e4
    obtain⟨d,h1,h3⟩:=Qn (kp H2 h2).2 hi e5
    have le:=Le.new (o:=.tup [.int (i:Nat),z]) e2
    refine⟨le,.tup [.int (i:Nat),d],by rw[Jd0,h1];simp,T,_,rfl,SqT.of upd_same,.int (i:Nat),[z],[],[],rfl,⟨rfl,rfl⟩,⟨z,[],[],[],rfl,h3.le le,⟨rfl,rfl⟩,rfl⟩,rfl⟩
   ·rw[if_neg hi]at po';exact po'.elim
  | _=>exact po.elim
theorem JfI {elts:List Expr} {kk:Nat} {tpos p2:Pos} (hg:Gl X "enumerate") (hm:X.mg "enumerate" = none) (h:SB X W M Rs e ca) (hs:starEach [e] X.env=[(false,eval e X.env)]:=by rfl):SI X W M Rs (.Tuple elts kk tpos) (.Call (.Name "enumerate" p2) [e] [] pos) (Jbb ca):=by
 obtain⟨t,p,q⟩:=(si_enum (elts:=elts) (kk:=kk) (tpos:=tpos) (p2:=p2) (pos:=pos) hg hm h hs).go
 obtain⟨t2,p2,q2⟩:=(si_enumT (elts:=elts) (kk:=kk) (tpos:=tpos) (p2:=p2) (pos:=pos) hg hm h hs).go
 refine⟨_,JiO p p2,fun C fs env σ H tf Q hC G po=>?_⟩
 unfold Jbb at po
 cases e1:ca env with
 | err=>rw[e1]at po;exact po.elim
 | ex x env' =>
  refine .inl (q C fs env σ H tf Q hC G ?_)
  unfold Jdw
  rw[e1]at po ⊢
  exact po
 | ok d env1 =>
  rw[e1]at po
  cases d with
  | lst g ds =>
   refine .inl (q C fs env σ H tf Q hC G ?_)
   unfold Jdw
   rw[e1]
   exact po
  | tup ds =>
   refine .inr (q2 C fs env σ H tf Q hC G ?_)
   unfold JeO
   rw[e1]
   exact po
  | _=>exact po.elim
@[simp] theorem e_enumG {env:Env}:Jbb ca env=(ca env).bind fun d env=>match d with
 | .lst _ ds=>if imms ds then .ok (numD 0 ds) env else .err
 | .tup ds=>if imms ds then .ok (numD 0 ds) env else .err
 | _=>.err:=(rfl)
end
end VS
namespace VS
open PySem L2 SeqAt PySem.Spec PyProof.Rows
section
variable {X:Cx} {W:WX} {M1 M2 R1 R2:List Nat} {o e:Expr} {ca cb:CE} {pos apos:Pos} {T id:String} {name:Str} {r:V→List V→Hp→VK→Prop} {kd:D→Bool} {p:D→D→Option D}
structure LkOk (X:Cx) (T:String) (r:V→List V→Hp→VK→Prop) (kd:D→Bool) (p:D→D→Option D):Prop where
 run:∀C H x y dx dy fx fy d Q,C.At X→Fr C H→Rep C H dx x fx→Rep C H dy y fy→p dx dy=some d→JaD C H d Q→r x [y] H Q
 ty:∀C H v d fp,C.At X→Fr C H→Rep C H d v fp→kd d=true→tyV X.K T v H
variable {C:Ctx} {H:Hp}
end
end VS
namespace VS
open PySem L2 SeqAt PySem.Spec PyProof.Rows
mutual
def D.nok:D→Bool
 | .tup ds=>noks ds
 | .ftu ds=>noks ds
 | .lst g ds=>(g != .k) && noks ds
 | .dct g _ ds=>(g != .k) && noks ds
 | .obj g _ _ ds=>(g != .k) && noks ds
 | .exc _ _ ds=>noks ds
 | _=>true
def noks:List D→Bool
 | []=>true
 | d::ds=>d.nok && noks ds
end
def ctxK (C:Ctx) (a:Addr):Ctx:=⟨C.K,C.mg,C.H0,C.A,a::C.Lk⟩
section
variable {C:Ctx} {H H2:Hp} {a:Addr} {od:Obj} {kvs:List (Key × V)}
theorem Je6 (h:H a=some (.dK kvs)) {g b u fp} (n:Nd C H g b u fp) (hfp:a∉fp):Nd (ctxK C a) (L2.upd H a (.frz od (.dK kvs))) g b u fp:=by
 cases g with
 | m =>
  obtain⟨e,rfl⟩:=n
  have hb:b≠a:=fun z=>hfp (by simp[z])
  exact⟨by rw[upd_ne hb];exact e,rfl⟩
 | l=>exact n
 | f =>
  obtain⟨⟨o,e⟩,x,q⟩:=n
  have hb:b≠a:=by rintro rfl;rw[h]at e;cases e
  exact⟨⟨o,by rw[upd_ne hb];exact e⟩,by simp[ctxK,hb,x],q⟩
 | k =>
  obtain⟨⟨o,e⟩,q⟩:=n
  have hb:b≠a:=by rintro rfl;rw[h]at e;cases e
  exact⟨⟨o,by rw[upd_ne hb];exact e⟩,q⟩
mutual
theorem Rep.lockIn (h:H a=some (.dK kvs)):∀{d:D} {v:V} {fp:List Addr},Rep C H d v fp→a∉fp→Rep (ctxK C a) (L2.upd H a (.frz od (.dK kvs))) d v fp
 | .non,v,fp,r,_=>r
 | .bl b,v,fp,r,_=>r
 | .int i,v,fp,r,_=>r
 | .str s,v,fp,r,_=>r
 | .ty s,v,fp,r,_=>r
 | .tup ds,v,fp,⟨b,vs,e,t,r⟩,hn=>⟨b,vs,e,Jbk t (Mono.upd h trivial),Reps.lockIn h r hn⟩
 | .ftu ds,v,fp,⟨b,vs,e,t,r⟩,hn=>⟨b,vs,e,t.keep (Mono.upd h trivial),Reps.lockIn h r hn⟩
 | .lst g ds,v,fp,⟨b,vs,f1,f2,e,n,r,z,e2⟩,hn=>⟨b,vs,f1,f2,e,Je6 h n (fun q=>hn (by rw[e2];exact List.mem_append_left _ q)),Reps.lockIn h r (fun q=>hn (by rw[e2];exact List.mem_append_right _ q)),z,e2⟩
 | .dct g ks ds,v,fp,⟨b,vs,f1,f2,e,n,q,r,z,e2⟩,hn=>⟨b,vs,f1,f2,e,Je6 h n (fun q=>hn (by rw[e2];exact List.mem_append_left _ q)),q,Reps.lockIn h r (fun q=>hn (by rw[e2];exact List.mem_append_right _ q)),z,e2⟩
 | .obj g c ns ds,v,fp,⟨b,Ca,dx,fls,f1,f2,e,c1,n,q,r,z,e2⟩,hn=>⟨b,Ca,dx,fls,f1,f2,e,c1,Je6 h n (fun q=>hn (by rw[e2];exact List.mem_append_left _ q)),q,Reps.lockIn h r (fun q=>hn (by rw[e2];exact List.mem_append_right _ q)),z,e2⟩
 | .exc c ns ds,v,fp,⟨b,Ca,d,fls,e,c1,n,x,q,r,e2⟩,hn=>⟨b,Ca,d,fls,e,c1,(Mono.upd h trivial).x _ _ trivial n,x.mono (Mono.upd h trivial),q,Reps.lockIn h r (fun q=>nomatch q),e2⟩
theorem Reps.lockIn (h:H a=some (.dK kvs)):∀{ds:List D} {vs:List V} {fp:List Addr},Reps C H ds vs fp→a∉fp→Reps (ctxK C a) (L2.upd H a (.frz od (.dK kvs))) ds vs fp
 | [],vs,fp,r,_=>r
 | d::ds,vs,fp,⟨v,vs',f1,f2,e,r,rs,e2⟩,hn=>⟨v,vs',f1,f2,e,Rep.lockIn h r (fun q=>hn (by rw[e2];exact List.mem_append_left _ q)),Reps.lockIn h rs (fun q=>hn (by rw[e2];exact List.mem_append_right _ q)),e2⟩
end
theorem Jc0 {b:Addr} {o:HO} (h:H2 a=some (.frz od (.dK kvs))) (k:Hard o) (e:H2 b=some o):L2.upd H2 a (.dK kvs) b=some o:=by
 have hb:b≠a:=by rintro rfl;rw[h]at e;cases e;exact k
 rw[upd_ne hb];exact e
theorem xd_unlock (h:H2 a=some (.frz od (.dK kvs))):∀{d:Option Addr} {fl:List (Str × V)},XdAt H2 d fl→XdAt (L2.upd H2 a (.dK kvs)) d fl
 | none,_,x=>x
 | some _,_,x=>Jc0 h trivial x
theorem ft_unlock {b xs} (h:H2 a=some (.frz od (.dK kvs))) (t:FT H2 b xs):FT (L2.upd H2 a (.dK kvs)) b xs:=by
 obtain⟨o,e,q⟩:=t
 have ne:b≠a:=by rintro rfl;rw[h]at e;cases e
 exact⟨o,by rw[upd_ne ne];exact e,q⟩
theorem sqt_unlock {K b xs} (h:H2 a=some (.frz od (.dK kvs))) (t:SqT K H2 b xs):SqT K (L2.upd H2 a (.dK kvs)) b xs:=by
 rcases t with (q | ⟨o,q⟩) | q
 ·exact .inl (.inl (by rw[upd_ne (by rintro rfl;rw[h]at q;cases q)];exact q))
 ·exact .inl (.inr ⟨o,by rw[upd_ne (by rintro rfl;rw[h]at q;cases q)];exact q⟩)
 ·exact .inr q
theorem JcI (h:H2 a=some (.frz od (.dK kvs))) {g b u fp} (n:Nd (ctxK C a) H2 g b u fp) (mu:Mutb u) (hg:(g != .k)=true):Nd C (L2.upd H2 a (.dK kvs)) g b u fp:=by
 cases g with
 | m =>
  obtain⟨e,rfl⟩:=n
  have hb:b≠a:=by rintro rfl;rw[h]at e;cases e;exact mu
  exact⟨by rw[upd_ne hb];exact e,rfl⟩
 | l=>exact n
 | f =>
  obtain⟨⟨o,e⟩,x,q⟩:=n
  simp only[ctxK,List.mem_cons,not_or]at x
  exact⟨⟨o,by rw[upd_ne x.1];exact e⟩,x.2,q⟩
 | k=>cases hg
mutual
theorem Rep.unlock (h:H2 a=some (.frz od (.dK kvs))):∀{d:D} {v:V} {fp:List Addr},Rep (ctxK C a) H2 d v fp→d.nok=true→Rep C (L2.upd H2 a (.dK kvs)) d v fp
 | .non,v,fp,r,_=>r
 | .bl b,v,fp,r,_=>r
 | .int i,v,fp,r,_=>r
 | .str s,v,fp,r,_=>r
 | .ty s,v,fp,r,_=>r
 | .tup ds,v,fp,⟨b,vs,e,t,r⟩,hn=>⟨b,vs,e,sqt_unlock h t,Reps.unlock h r hn⟩
 | .ftu ds,v,fp,⟨b,vs,e,t,r⟩,hn=>⟨b,vs,e,ft_unlock h t,Reps.unlock h r hn⟩
 | .lst g ds,v,fp,⟨b,vs,f1,f2,e,n,r,z,e2⟩,hn=>⟨b,vs,f1,f2,e,JcI h n trivial (Bool.and_eq_true_iff.mp hn).1,Reps.unlock h r (Bool.and_eq_true_iff.mp hn).2,z,e2⟩
 | .dct g ks ds,v,fp,⟨b,vs,f1,f2,e,n,q,r,z,e2⟩,hn=>⟨b,vs,f1,f2,e,JcI h n trivial (Bool.and_eq_true_iff.mp hn).1,q,Reps.unlock h r (Bool.and_eq_true_iff.mp hn).2,z,e2⟩
 | .obj g c ns ds,v,fp,⟨b,Ca,dx,fls,f1,f2,e,c1,n,q,r,z,e2⟩,hn=>⟨b,Ca,dx,fls,f1,f2,e,c1,JcI h n trivial (Bool.and_eq_true_iff.mp hn).1,q,Reps.unlock h r (Bool.and_eq_true_iff.mp hn).2,z,e2⟩
 | .exc c ns ds,v,fp,⟨b,Ca,d,fls,e,c1,n,x,q,r,e2⟩,hn=>⟨b,Ca,d,fls,e,c1,Jc0 h trivial n,xd_unlock h x,q,Reps.unlock h r hn,e2⟩
theorem Reps.unlock (h:H2 a=some (.frz od (.dK kvs))):∀{ds:List D} {vs:List V} {fp:List Addr},Reps (ctxK C a) H2 ds vs fp→noks ds=true→Reps C (L2.upd H2 a (.dK kvs)) ds vs fp
 | [],vs,fp,r,_=>r
 | d::ds,vs,fp,⟨v,vs',f1,f2,e,r,rs,e2⟩,hn=>⟨v,vs',f1,f2,e,Rep.unlock h r (Bool.and_eq_true_iff.mp hn).1,Reps.unlock h rs (Bool.and_eq_true_iff.mp hn).2,e2⟩
end
end
end VS
namespace VS
open PySem L2 SeqAt PySem.Spec PyProof.Rows
structure FnG (P:Program) (w:World) (K:PySem.W.Frag) (mg:Str→Option Value) (base:Heap) (k:Nat) (f:Addr) (fd:FuncData) (ps:List Str) (sp:Sp):Prop where
 len:∀vs H Q E,sp vs H Q E→vs.length=ps.length
 go:∀(B:Around) (fr:List PySem.Env) (t:Shared) (H:Hp) (as:Args) (us:List Value) (vs:List V) (Q:VK) (E:XK),Room k B→B.guards=some []→Env0 P w K mg base B fr t H→BindsTo t fd as (ps.zip us)→Vals vs us→sp vs H Q E →
  codeAny (model P w) B (.call (.ref f) as) (CR (L2.CX P w) fr P w H t Q E) t
section
variable {P:Program} {w:World} {K:PySem.W.Frag} {mg:Str→Option Value} {base:Heap}
theorem FnG.mono {j k:Nat} {f:Addr} {fd:FuncData} {ps:List Str} {sp:Sp} (F:FnG P w K mg base j f fd ps sp) (h:j≤k):FnG P w K mg base k f fd ps sp :=
 ⟨F.len,fun B fr t H as us vs Q E hr hg=>F.go B fr t H as us vs Q E (hr.mono h) hg⟩
theorem FnG.imp {k:Nat} {f:Addr} {fd:FuncData} {ps:List Str} {sp sp':Sp} (F:FnG P w K mg base k f fd ps sp) (h:∀vs H Q E,sp' vs H Q E→sp vs H Q E):FnG P w K mg base k f fd ps sp' :=
 ⟨fun vs H Q E q=>F.len vs H Q E (h _ _ _ _ q),fun B fr t H as us vs Q E hr hg e0 hb hv q=>F.go B fr t H as us vs Q E hr hg e0 hb hv (h _ _ _ _ q)⟩
theorem fng_of {k:Nat} {f:Addr} {nm qual:Str} {ar:Arguments} {body:List Stmt} {sco:Scope} {dV kV doc pm cdv ct oc:Value} {an od:Option Addr} {osl:Array (Option Value)} {N ps:List Str} {sp:Sp}
  (lk:K.lookup f=some ⟨oc,od,.func (PySem.W.fnOf nm qual ar body sco dV kV doc pm an cdv ct),osl⟩) (hcd:PySem.W.codeIn K cdv qual=true) (S:FnScope N ps sco) (len:∀vs H Q E,sp vs H Q E→vs.length=ps.length)
  (hbd:∀(B:Around) (fr:List PySem.Env) (t:Shared) (H:Hp) (vs:List V) (Q:VK) (E:XK),Room k (B.deeper (envOfC qual sco t.heap.objs.size f cdv))→B.guards=some []→sp vs H Q E →
   ∃rd,PSs (cxOf (L2.CX P w) P w K mg base N qual sco f cdv B fr t H E) body rd∧rd { nx:=fun _ H'=>Q .non H',rt:=Q } (start N vs) H) :
  FnG P w K mg base (k+1) f (PySem.W.fnOf nm qual ar body sco dV kV doc pm an cdv ct) ps sp:=by
 refine⟨len,fun B fr t H as us vs Q E hr hgd e0 hb rv hsp=>?_⟩
 have hlen:=len _ _ _ _ hsp
 have kin:K.In t.heap:=e0.mod.kin.keeps fun b o e=>(e0.bs b o e).1
 have nolim:t.heap.NoLimit:=e0.mod.nolimit.keeps fun b o e=>(e0.bs b o e).1
 have kinds:∀y∈ps.zip us,sco.names.lookup y.1=some .local∨(sco.names.lookup y.1=some .cell∧((cellsFrom (t.heap.objs.size+1) sco.names []).lookup y.1).isSome=true):=fun ⟨n,v⟩ hy =>
  (S.par n (List.of_mem_zip hy).1).elim .inl fun q=>.inr ⟨q,PySem.W.cellsFrom_some _ _ _ (.inl q)⟩
 refine codeAny_call_function hr.depth (kin _ _ lk) rfl S.co S.gen rfl (PySem.W.codeRec_of kin hcd) (hb _ _ _ _ (wpAny_newFunctionEnv_cells S.kind kinds fun env he t1 x=>?_))
 subst he
 refine⟨nolim.keeps x.toInCall.keep,codeAny_func ?_⟩
 obtain⟨rd,hrd,hq⟩:=hbd B fr t H vs Q E (hr.deeper _) hgd hsp
 have I0:Inv (cxOf (L2.CX P w) P w K mg base N qual sco f cdv B fr t H E) [] (start N vs) H t1:=inv_start S hr.hd e0 hlen rv x
 refine wpAny_mono (hrd.run [] t1 (start N vs) H _ I0 hq) (fun fl t' hs=>?_) fun e t' hs=>hs
 cases fl with
 | ret u=>exact let ⟨v,_,H',J,rr,q⟩:=hs;⟨v,H',J.os,J.bare,J.base,J.hok,rr,q⟩
 | next=>exact let ⟨_,H',J,q⟩:=hs;⟨V.non,H',J.os,J.bare,J.base,J.hok,rfl,q⟩
 | brk=>exact let ⟨_,_,_,q⟩:=hs;q.elim
 | cont=>exact let ⟨_,_,_,q⟩:=hs;q.elim
theorem Jh1 {x qual:Str} {st:Stmt} {f:Addr} {fd:FuncData} {N ps:List Str} {k:Nat} {io:List Bool} {c:CS} {M Vs:List Nat}
  (F:Fun K x qual st f fd) (S:FnScope N ps (defScope st)) (hio:io.length=ps.length) (hv:djB (Yr 0 io) Vs=true)
  (hb:∀(cdv:Value) (A:Around) (outer:List PySem.Env) (s:Shared) (H:Hp) (E:XK),Room k (A.deeper (envOfC qual (defScope st) s.heap.objs.size f cdv))→A.guards=some [] →
   SSs (cxOf (L2.CX P w) P w K mg base N qual (defScope st) f cdv A outer s H E) (fun cls d _ H=>E cls d H) M Vs (defBody st) c) :
  FnG P w K mg base (k+1) f fd ps (spF K mg io (JO N.length io c)):=by
 obtain⟨oc,od,kV,doc,pm,an,cdv,ct,osl,rfl,lk,hcd⟩:=F.ex
 exact fng_of lk hcd S (fun vs H Q E h=>by obtain⟨Lk,ds,fps,hl,_⟩:=h;rw[hl,hio]) fun B fr t H vs Q E hr hg hsp=>Jg2 rfl rfl S hio hv (hb cdv B fr t H E hr hg) hsp
end
def FdG (P:Program) (w:World) (K:PySem.W.Frag) (mg:Str→Option Value) (base:Heap) (k:Nat) (x:Str) (ps:List Str) (io:List Bool) (φ:List D→FR):Prop :=
 ∃(f:Addr) (fd:FuncData),FnG P w K mg base k f fd ps (spF K mg io φ)∧mg x=some (.ref f)∧PySem.W.keepIn K (.ref f)=true∧Binds K fd ps []
theorem fdg_mk {P:Program} {w:World} {K:PySem.W.Frag} {mg:Str→Option Value} {base:Heap} {k:Nat} {x:Str} {st:Stmt} {f:Addr} {fd:FuncData} {ps:List Str} {io:List Bool} {φ:List D→FR} (F:Fun K x x st f fd) (hm:mg x=some (.ref f)) (hb:Binds K fd ps [])
  (h:FnG P w K mg base k f fd ps (spF K mg io φ)):FdG P w K mg base k x ps io φ:=⟨f,fd,h,hm,F.kp,hb⟩
theorem FdG.mono {P:Program} {w:World} {K:PySem.W.Frag} {mg:Str→Option Value} {base:Heap} {j k:Nat} {x:Str} {ps:List Str} {io:List Bool} {φ:List D→FR} (F:FdG P w K mg base j x ps io φ) (h:j≤k):FdG P w K mg base k x ps io φ :=
 let ⟨f,fd,G,a,b,c⟩:=F
 ⟨f,fd,G.mono h,a,b,c⟩
section
variable {X:Cx} {W:WX} {M Rs:List Nat} {e:Expr} {es:List Expr} {pos:Pos} {cr:Env→R (List AV)} {io:List Bool}
theorem run_g {k:Nat} {f:Addr} {fd:FuncData} {ps:List Str} {sp:Sp} {E:L2.St→XK} {pins:List (Addr × Obj)} {σ:L2.St} {H:Hp} {s:Shared} {Q:VK} {us:List Value} {vs:List V} (F:FnG X.prog X.w X.K X.mg X.base k f fd ps sp) (hr:Room k X.A) (hg:X.A.guards=some []) (hb:Binds X.K fd ps [])
  (hx:PassesAt (L2.CX X.prog X.w) X σ (E σ)) (I:Inv X pins σ H s) (rv:Vals vs us) (h:sp vs H Q (E σ)):wpAny (model X.prog X.w) X.A (call (.ref f) us) (EP X pins σ Q) X.xe s:=by
 have hlen:us.length=ps.length:=by rw[←rv.length];exact F.len _ _ _ _ h
 have bd:=hb s us I.kIn (by rw[List.append_nil];exact hlen)
 rw[List.append_nil]at bd
 refine wpAny_call (codeAny_mono (F.go X.A X.stack s H ⟨us,[]⟩ us vs Q (E σ) hr hg I.env0 bd rv h) fun out t hq=>?_)
 match out,hq with
 | .error e,hq=>exact hx pins H s e t I hq
 | .ok (.ret u),hq=>exact I.after hq
 | .ok .next,hq=>exact hq.elim
 | .ok .brk,hq=>exact hq.elim
 | .ok .cont,hq=>exact hq.elim
theorem JfM {k:Nat} {x:Str} {ps:List Str} {φ:List D→FR} {pf:Pos} (F:FdG X.prog X.w X.K X.mg X.base k x ps io φ) (hr:Room k X.A) (hgd:X.A.guards=some []) (tk:Takes X W) (ha:SRI X W M Rs io (e::es) cr) (hg:Gl X x:=by rfl)
  (hdb:(x == ("__debug__" : Str))=false:=by decide) (he:starEach (e::es) X.env=(false,eval e X.env)::starEach es X.env:=by rfl) (hpl:(backTo pos (starEach es X.env)).any (·.1)=false:=by rfl) :
  SO X W M (.Call (.Name x pf) (e::es) [] pos) (Jo φ cr):=by
 obtain⟨f,fd,G,hm,hk,hb⟩:=F
 obtain⟨t,p,q⟩:=ha.sr.go
 refine⟨tCallS (spF X.K X.mg io φ) (WE W) t,⟨fun pins s σ H Q I h=>wpAny_Call_Name_kw (ld_glob I hg hm (PySem.W.callWith_K (h₀:=X.base) I.ok.mod.kin hk (thn (p.run pos pins s σ H _ I h) fun us s1 ⟨vs,H1,I1,r,q1⟩=>⟨I1.kIn,run_g G hr hgd hb (passAt tk σ) I1 r q1⟩) he hpl) hdb)⟩,?_⟩
 exact Jgw (E:=WE W) (fun _ _ _ _ h=>h) ha.shape q (by unfold djB;simp)
end
mutual
theorem JeL:∀{d:D} {y:PyData},d.py=some y→y.hasDict=false
 | .non,y,h=>by cases h;rfl
 | .bl b,y,h=>by cases h;rfl
 | .int i,y,h=>by cases h;rfl
 | .str s,y,h=>by cases h;rfl
 | .tup ds,y,h=>by
  obtain⟨ys,hy,rfl⟩:=Option.map_eq_some_iff.mp h
  show PyData.hasDictAll ys=false
  exact pys_nodict hy
 | .lst g ds,y,h=>by
  obtain⟨ys,hy,rfl⟩:=Option.map_eq_some_iff.mp h
  show PyData.hasDictAll ys=false
  exact pys_nodict hy
 | .ty _,_,h=>by cases h
 | .ftu _,_,h=>by cases h
 | .dct _ _ _,_,h=>by cases h
 | .obj _ _ _ _,_,h=>by cases h
 | .exc _ _ _,_,h=>by cases h
theorem pys_nodict:∀{ds:List D} {ys:List PyData},pys ds=some ys→PyData.hasDictAll ys=false
 | [],ys,h=>by cases h;rfl
 | d::ds,ys,h=>by
  obtain⟨y,hy,h⟩:=Option.bind_eq_some_iff.mp h
  obtain⟨ys',hys,rfl⟩:=Option.map_eq_some_iff.mp h
  show (PyData.hasDict y || PyData.hasDictAll ys')=false
  rw[JeL hy,pys_nodict hys];rfl
end
def shOk (y:PyData):Bool:=y.showable && decide (y.shown.length≤sizeLine) && decide (y.depth≤100)
def JcU:List D→Option D
 | [d]=>match d.py with
  | some y=>if shOk y then some (.str y.shown) else none
  | none=>none
 | _=>none
def Jf7:List D→Option D
 | [.int i]=>if i.natAbs.log2 < 1920 then some (.str (toString i)) else none
 | [.str z]=>some (.str z)
 | _=>none
def pStr:List D→Option D
 | [.tup ds]=>JcU [.tup ds]
 | [.lst g ds]=>JcU [.lst g ds]
 | [.int i]=>if i.natAbs.log2 < 1920 then some (.str (toString i)) else none
 | [.str z]=>some (.str z)
 | _=>none
section
variable {X:Cx}
theorem JgA:ODL X (.type "str") Jf7:=by
 intro pins s σ H xs us Q I rv ⟨C,ds,fx,d,hC,hF,rs,e,k⟩
 unfold Jf7 at e
 split at e
 ·rename_i i
  split at e
  case isFalse=>cases e
  rename_i hk
  cases e
  obtain⟨v,rfl,r⟩:=Zn rs
  obtain⟨rfl,_⟩:=r
  exact call_str_int pins s σ H _ us Q I rv ⟨i,rfl,hk,k.here ⟨rfl,rfl⟩⟩
 ·rename_i z
  cases e
  obtain⟨v,rfl,r⟩:=Zn rs
  obtain⟨rfl,_⟩:=r
  exact SkE.call_str_str pins s σ H _ us Q I rv ⟨z,rfl,k.here ⟨rfl,rfl⟩⟩
 ·cases e
theorem od_str {k:Nat} (hr:Room k X.A) (hg:X.A.guards=some []):ODL X (.type "str") pStr:=by
 intro pins s σ H xs us Q I rv ⟨C,ds,fx,d,hC,hF,rs,e,k⟩
 have leaf:=JgA pins s σ H xs us Q I rv
 have gen:∀d0,ds=[d0]→JcU [d0]=some d→(∃ys,d0.py=some (.list ys))∨(∃ys,d0.py=some (.tuple ys))→wpAny (model X.prog X.w) X.A (call (.type "str") us) (EP X pins σ Q) X.xe s:=by
  intro d0 hd e1 hs
  subst hd
  unfold JcU at e1
  simp only at e1
  split at e1
  case h_2=>cases e1
  rename_i y hy
  split at e1
  case isFalse=>cases e1
  rename_i hk
  cases e1
  simp only[shOk,Bool.and_eq_true,decide_eq_true_eq]at hk
  obtain⟨v,rfl,r⟩:=Zn rs
  obtain⟨u,rfl,ru⟩:=vals1 rv
  obtain⟨as,hrd,_⟩:=Jar I hC hF hy r ru
  have hun:=hr.un
  have hnd:=JeL hy
  cases hrd with
  | list h1 h2 h3 h4 =>
   refine str_of_reads (.list h1 h2 h3 h4) hk.1.1 (PyData.noDict_hsm hnd) hg (by have:=hk.2;omega) (fun _ _ e=>e) (fun h' u tk hk'=>?_) hk.1.2
   exact⟨.str _,H,I.kept (t':=tk) fun b o q=>hk' b o q,⟨_,rfl⟩,k.here ⟨rfl,rfl⟩⟩
  | tuple h1 h2 h3 h4 =>
   refine str_of_reads (.tuple h1 h2 h3 h4) hk.1.1 (PyData.noDict_hsm hnd) hg (by have:=hk.2;omega) (fun _ _ e=>e) (fun h' u tk hk'=>?_) hk.1.2
   exact⟨.str _,H,I.kept (t':=tk) fun b o q=>hk' b o q,⟨_,rfl⟩,k.here ⟨rfl,rfl⟩⟩
  | _=>rcases hs with ⟨ys,z⟩ | ⟨ys,z⟩<;>rw[hy]at z<;>cases z
 unfold pStr at e
 split at e
 ·rename_i ds0
  refine gen _ rfl e (.inr ?_)
  unfold JcU at e
  simp only at e
  split at e
  ·rename_i y hy
   obtain⟨ys,_,rfl⟩:=Option.map_eq_some_iff.mp hy
   exact⟨ys,hy⟩
  ·cases e
 ·rename_i g ds0
  refine gen _ rfl e (.inl ?_)
  unfold JcU at e
  simp only at e
  split at e
  ·rename_i y hy
   obtain⟨ys,_,rfl⟩:=Option.map_eq_some_iff.mp hy
   exact⟨ys,hy⟩
  ·cases e
 ·exact leaf ⟨C,_,fx,d,hC,hF,rs,e,k⟩
 ·exact leaf ⟨C,_,fx,d,hC,hF,rs,e,k⟩
 ·cases e
end
theorem law_impG {P:Program} {w:World} {K:PySem.W.Frag} {mg:Str→Option Value} {base:Heap} {k:Nat} {f:Addr} {fd:FuncData} {x:Str} {φ:List D→FR} (F:FnG P w K mg base k f fd [x] (spF K mg [false] φ))
  (h:∀ns:List Int,ns.length≤63→(∀z∈ns,Builtin.Int.intBits z≤1048576)→φ [.lst .l (ns.map D.int)]=.ok (.bl true) []):FnG P w K mg base k f fd [x] (Jf2 K):=by
 refine F.imp fun vs H Q E ⟨a,ns,e,sq,h1,h2,q⟩=>?_
 subst e
 refine⟨[],[.lst .l (ns.map D.int)],[[]],rfl,⟨_,[],_,[],[],[],rfl,rfl,rfl,⟨a,ns.map V.int,[],[],rfl,⟨?_,rfl⟩,Jeo ns,.inr rfl,rfl⟩,.inr rfl,⟨rfl,rfl,rfl⟩⟩,by simp,(fun _ z=>nomatch z),?_⟩
 ·exact sq.elim (fun z=>.inl ⟨z,by simp⟩) fun z=>.inr ⟨_,rfl,z⟩
 ·rw[h ns h1 h2]
  intro v H' fp fps _ _ r _ _ _
  obtain⟨rfl,_⟩:=r
  exact q H'
section
variable {P:Program} {w:World} {K:PySem.W.Frag} {mg mb:Str→Option Value} {k:Nat} {fa a:Addr} {fd:FuncData} {x:Str} {t:Shared} {vs:List Value} {ns:List Int}
theorem JhD {H:Hp} (kin:K.In t.heap) (hns:t.heap.Ns mainGlobals mg) (hb:t.heap.Ns builtinsNs mb) (hbb:∀x:Str,x ≠ "__name__" → mb x=bootBuiltins x) (nolim:t.heap.NoLimit) (hg:t.gens=#[])
  (ha:t.heap.get? a=some { cls:=.type "list", data:=.seq vs.toArray }) (hr:Room k callerA) (F:∀base:Heap,K.In base→base.Ns mainGlobals mg→FnG P w K mg base k fa fd [x] (Jf2 K))
  (hbind:∀(s:Shared) (u:Value),BindsTo s fd ⟨[u],[]⟩ [(x,u)]) (hl:ns.length≤63) (hz:∀z∈ns,Builtin.Int.intBits z≤1048576)
  (hO:Only H) (hS:SqL K H a (ns.map V.int)) (hok:HOk P w H t.heap) (hA:∀b,H b≠none→b=a) (hK:H a≠none→K.lookup a=none) :
  codeAny (model P w) callerA (.call (.ref fa) ⟨[.ref a],[]⟩) (fun r t'=>r=.ok (.ret (.bool true))∧OldK t.heap t'.heap∧t'.os=t.os∧AllBare t'.gens) t:=by
 have only:∀{b:Addr} {u:HO},H b=some u→b=a:=fun {b u} e=>hA b fun z=>by rw[z]at e;cases e
 have notA:∀{b:Addr} {o:Obj} {es:Array DictEntry} {ep:Nat},t.heap.get? b=some o→o.data=.dict es ep→H b=none:=fun {b o es ep} e d=>by
  rcases hH:H b with _ | u
  ·rfl
  ·rw[only hH,ha]at e
   cases e
   exact nomatch (show Data.seq vs.toArray _=Data.dict es ep from d)
 have ns':∀{b:Addr} {m:Str→Option Value},t.heap.Ns b m→(hidT t.heap H).Ns b m:=fun ⟨o,es,ep,e,d,r⟩=>⟨o,es,ep,hidT_get e (notA e d),d,r⟩
 have kin':K.In (hidT t.heap H):=fun b o e=>hidT_get (kin b o e) (by
  rcases hH:H b with _ | u
  ·rfl
  ·have eb:=only hH
   rw[eb]at hH e
   rw[hK (by rw[hH];exact nofun)]at e
   cases e)
 have mo:Mod K mg (hidT t.heap H):=⟨kin',ns' hns,⟨mb,ns' hb,hbb⟩,nolim.elim fun mc h=>⟨mc,ns' h.1,h.2⟩⟩
 have e0:Env0 P w K mg (hidT t.heap H) callerA [] t H:=⟨rfl,mo,fun _ _ e=>of_hidT e,Nat.le_of_eq (hidT_size _ _),trivial,fun b hb=>(List.not_mem_nil (show b∈([]:List Addr) from hb)).elim,hok,.of_eq hg⟩
 refine codeAny_mono ((F _ kin' (ns' hns)).go callerA [] t H ⟨[.ref a],[]⟩ [.ref a] [.ref a] (fun v _=>v=.bl true) (fun _ _ _=>False) hr rfl e0 (hbind t (.ref a)) (.cons rfl .nil) ⟨a,ns,rfl,hS,hl,hz,fun _=>rfl⟩) fun out t' h=>?_
 match out,h with
 | .error e,h =>
  obtain⟨_,_,_,_,_,_,_,_,_,_,_,_,no⟩:=h
  exact no.elim
 | .ok .next,h=>exact h.elim
 | .ok .brk,h=>exact h.elim
 | .ok .cont,h=>exact h.elim
 | .ok (.ret u),h =>
  obtain⟨v,H',os,bare,un,hok',ru,q⟩:=h
  have ev:v=.bl true:=q
  subst ev
  obtain rfl:u=Value.bool true:=ru
  refine⟨rfl,OldK.of_keep fun b o e=>?_,os,bare⟩
  rcases hH:H b with _ | u
  ·exact un.keep b o e hH (fun z=>(List.not_mem_nil (show b∈([]:List Addr) from z)).elim) (by simp)
  ·rcases hO b with z | ⟨ob,xs,z⟩
   ·rw[hH]at z;cases z
   ·obtain⟨e1,_⟩:=hok b _ z
    obtain⟨e2,_⟩:=hok' b _ (un.frzs b ob _ z)
    rw[e]at e1
    cases e1
    exact e2
theorem call_g (kin:K.In t.heap) (hns:t.heap.Ns mainGlobals mg) (hb:t.heap.Ns builtinsNs mb) (hbb:∀x:Str,x ≠ "__name__" → mb x=bootBuiltins x) (nolim:t.heap.NoLimit) (hg:t.gens=#[])
  (ha:t.heap.get? a=some { cls:=.type "list", data:=.seq vs.toArray }) (hi:IntsAre vs ns) (hr:Room k callerA) (F:∀base:Heap,K.In base→base.Ns mainGlobals mg→FnG P w K mg base k fa fd [x] (Jf2 K))
  (hbind:∀(s:Shared) (u:Value),BindsTo s fd ⟨[u],[]⟩ [(x,u)]) (hl:ns.length≤63) (hz:∀z∈ns,Builtin.Int.intBits z≤1048576) :
  codeAny (model P w) callerA (.call (.ref fa) ⟨[.ref a],[]⟩) (fun r t'=>r=.ok (.ret (.bool true))∧OldK t.heap t'.heap∧t'.os=t.os∧AllBare t'.gens) t:=by
 have rv:=vals_ints hi
 have room:ns.length≤sizeLine:=Nat.le_trans hl (by decide)
 cases hk:K.lookup a with
 | some o =>
  have e:=kin a o hk
  rw[ha]at e
  cases e
  refine JhD (H:=fun _=>none) kin hns hb hbb nolim hg ha hr F hbind hl hz (fun _=>.inl rfl) (.inr ⟨_,vs.toArray,_,hk,rfl,rfl,rfl,?_,by simpa using rv⟩) (fun b u z=>nomatch (show (none:Option HO)=some u from z)) (fun b z=>absurd rfl z) fun z=>absurd rfl z
  rw[List.size_toArray,hi.length];exact room
 | none =>
  let o0:Obj:={ cls:=.type "list", data:=.seq vs.toArray }
  let H0:Hp:=fun b=>if b=a then some (.frz o0 (.lst (ns.map V.int))) else none
  have yes:H0 a=some (.frz o0 (.lst (ns.map V.int))):=if_pos rfl
  have no:∀b,b≠a→H0 b=none:=fun b hb=>if_neg hb
  refine JhD (H:=H0) kin hns hb hbb nolim hg ha hr F hbind hl hz (fun b=>?_) (.inl (.inr ⟨o0,yes⟩)) (fun b u z=>?_) (fun b z=>Classical.byContradiction fun hb=>z (no b hb)) fun _=>hk
  ·by_cases hb:b=a
   ·rw[hb];exact .inr ⟨_,_,yes⟩
   ·exact .inl (no b hb)
  ·by_cases hb:b=a
   ·rw[hb,yes]at z
    cases z
    rw[hb]
    exact⟨ha,by rw[List.length_map];exact room,vs,_,rv,ha⟩
   ·rw[no b hb]at z;cases z
end
end VS
namespace VS
open PySem L2 SeqAt PySem.Spec PyProof.Rows
def Jes (i:Nat) (cs:CA):CA:=fun env=>match env[i]? with
 | some (some d)=>(cs env).bind fun ds env=>.ok (d::ds) (if d.imm then env else env.set i none)
 | _=>.err
section
variable {X:Cx} {W:WX} {M:List Nat} {es:List Expr} {cs:CA} {pos:Pos}
theorem sao_late (i:Nat) {x:Str} (hr:SAO X W M es cs) (hi:i∉M) (hN:X.N[i]?=some x) (hv:Vis X.env.scope x) (hd:(x == ("__debug__" : Str))=false) (hcd:(x == ("__classdict__" : Str))=false)
  (hs:starEach (.Name x pos::es) X.env=(false,eval (.Name x pos) X.env)::starEach es X.env):SAO X W ([i]++M) (.Name x pos::es) (Jes i cs):=by
 obtain⟨t2,p2,q2⟩:=hr.go
 refine⟨tCons (tVar i) t2,pa_cons (pe_var hN hv hd hcd) p2 hs,fun C fs env σ H tf Q hC G po=>?_⟩
 unfold Jes at po
 split at po
 case h_2=>exact po.elim
 rename_i d e1
 obtain⟨v,e2,r⟩:=G.rep i d e1
 refine⟨v,e2,q2 C fs env σ H tf _ hC G ?_⟩
 cases e3:cs env with
 | err=>rw[e3]at po;exact po
 | ex y env' =>
  rw[e3]at po
  exact fun cv dd fs' H' G' s=>po cv dd fs' H' G' (s.weak (fun j hj=>List.mem_append_right _ hj) fun _ z=>z)
 | ok ds env2 =>
  rw[e3]at po
  intro vs fs2 H2 fp2 G2 s2 r2
  have ei:env2[i]?=some (some d):=(s2.e i hi).trans e1
  have rd:Rep C H2 d v (fs2.getD i []):=by rw[s2.f i hi];exact r.keep (fun a ha=>s2.h i hi a ha) s2.m
  have po2:∀vs fs' H' fp,Good C fs' (if d.imm then env2 else env2.set i none) σ H' (fp++tf)→Step ([i]++M) tf fs env H fs' (if d.imm then env2 else env2.set i none) H'→Reps C H' (d::ds) vs fp→Q vs H':=po
  by_cases hm:d.imm=true
  ·simp only[hm,if_true]at po2
   have z:=rd.imm hm
   rw[z]at rd
   exact po2 (v::vs) fs2 H2 fp2 G2 (s2.weak (fun j hj=>List.mem_append_right _ hj) fun _ z=>z) ⟨v,vs,[],fp2,rfl,rd,r2,rfl⟩
  ·simp only[hm]at po2
   have lt:=G2.lt ei
   refine po2 (v::vs) (fs2.set i []) H2 (fs2.getD i []++fp2) (by rw[List.append_assoc];exact G2.mv ei) ⟨s2.t,fun j hj=>?_,fun j hj=>?_,fun j hj a ha=>s2.h j (fun z=>hj (List.mem_append_right _ z)) a ha,s2.m⟩ ⟨v,vs,_,fp2,rfl,rd,r2,rfl⟩
   ·rw[Zl fs2 i j [] lt,if_neg (fun z=>hj (by simp[z]))]
    exact s2.f j fun z=>hj (List.mem_append_right _ z)
   ·rw[if_neg (by simp),List.getElem?_set,if_neg (fun z=>hj (by simp[z]))]
    exact s2.e j fun z=>hj (List.mem_append_right _ z)
end
@[simp] theorem e_late (i:Nat) (cs:CA) (env:Env):Jes i cs env=match env[i]? with
 | some (some d)=>(cs env).bind fun ds env=>.ok (d::ds) (if d.imm then env else env.set i none)
 | _=>.err:=(rfl)
theorem AOk.fs {C:Ctx} {H:Hp} {σ:L2.St} {Ms Rs:List Nat} {fs fs':FPs} {ownr:List Addr} (h:∀r∈Rs,∀a∈fs.getD r [],a∈fs'.getD r []):∀{avs vs fps},AOk C H σ Ms Rs fs ownr avs vs fps→AOk C H σ Ms Rs fs' ownr avs vs fps
 | [],_,_,x=>x
 | .ro d::as,vs,fps,⟨v,vs',fp,fps',e1,e2,r,i,x⟩=>⟨v,vs',fp,fps',e1,e2,r,fun a ha=>(i a ha).elim .inl fun ⟨r,hr,z⟩=>.inr ⟨r,hr,h r hr a z⟩,AOk.fs h x⟩
 | .ow d wb::as,vs,fps,⟨v,vs',fp,fps',e1,e2,r,i,x⟩=>⟨v,vs',fp,fps',e1,e2,r,i,AOk.fs h x⟩
end VS
namespace VS
open PySem L2 SeqAt PySem.Spec PyProof.Rows
def cFix (c:CE):CE:=fun env=>(c env).bind fun d env=>.ok d.fix env
structure Fz (S:List Addr) (H H':Hp):Prop where
 o:∀a,a∉S→H' a=H a
 i:∀a,a∈S→∃od u,H a=some u∧Mutb u∧H' a=some (.frz od u)
theorem Fz.mono {S:List Addr} {H H':Hp} (z:Fz S H H'):Mono H H':=by
 refine⟨?_,?_,fun a o k e=>?_⟩
 rotate_left 2
 ·by_cases ha:a∈S
  ·obtain⟨_,u,e1,mu,_⟩:=z.i a ha
   rw[e]at e1;cases e1;exact(k.nm mu).elim
  ·rw[z.o a ha];exact e
 ·intro a xs e
  by_cases ha:a∈S
  ·obtain⟨_,u,e1,mu,_⟩:=z.i a ha
   rw[e]at e1;cases e1;exact mu.elim
  ·rw[z.o a ha];exact e
 ·intro a o u e
  by_cases ha:a∈S
  ·obtain⟨_,u',e1,mu,_⟩:=z.i a ha
   rw[e]at e1;cases e1;exact mu.elim
  ·rw[z.o a ha];exact e
section
variable {C:Ctx} {H H':Hp} {S:List Addr}
theorem Jgi (z:Fz S H H') (lk:∀a∈C.Lk,∃ob u,H a=some (.frz ob u)) {g a u fp} (n:Nd C H g a u fp) (hs:∀b∈fp,b∈S):Nd C H' g.fix a u []:=by
 cases g with
 | m =>
  obtain⟨e,rfl⟩:=n
  obtain⟨od,u',e1,mu,e2⟩:=z.i a (hs a (by simp))
  rw[e]at e1;cases e1
  refine⟨⟨od,e2⟩,fun hl=>?_,rfl⟩
  obtain⟨ob,w,q⟩:=lk a hl
  rw[e]at q;cases q;exact mu
 | l=>obtain⟨h,e⟩:=n;exact⟨h,rfl⟩
 | f=>obtain⟨⟨o,e⟩,x,_⟩:=n;exact⟨⟨o,z.mono.z _ _ _ e⟩,x,rfl⟩
 | k=>obtain⟨⟨o,e⟩,_⟩:=n;exact⟨⟨o,z.mono.z _ _ _ e⟩,rfl⟩
mutual
theorem Rep.fixR (z:Fz S H H') (lk:∀a∈C.Lk,∃ob u,H a=some (.frz ob u)):∀{d:D} {v:V} {fp:List Addr},Rep C H d v fp→(∀b∈fp,b∈S)→Rep C H' d.fix v []
 | .non,v,fp,h,_=>⟨h.1,rfl⟩
 | .bl b,v,fp,h,_=>⟨h.1,rfl⟩
 | .int i,v,fp,h,_=>⟨h.1,rfl⟩
 | .str s,v,fp,h,_=>⟨h.1,rfl⟩
 | .ty s,v,fp,h,_=>⟨h.1,rfl⟩
 | .tup ds,v,fp,⟨a,vs,e,t,r⟩,hs=>⟨a,vs,e,Jbk t z.mono,Reps.fixR z lk r hs⟩
 | .ftu ds,v,fp,⟨a,vs,e,t,r⟩,hs=>⟨a,vs,e,t.keep z.mono,Reps.fixR z lk r hs⟩
 | .lst g ds,v,fp,⟨a,vs,f1,f2,e,n,r,q,e2⟩,hs=>⟨a,vs,[],[],e,Jgi z lk n (fun b hb=>hs b (by rw[e2];exact List.mem_append_left _ hb)),Reps.fixR z lk r (fun b hb=>hs b (by rw[e2];exact List.mem_append_right _ hb)),.inr rfl,rfl⟩
 | .dct g ks ds,v,fp,⟨a,vs,f1,f2,e,n,q,r,q2,e2⟩,hs=>⟨a,vs,[],[],e,Jgi z lk n (fun b hb=>hs b (by rw[e2];exact List.mem_append_left _ hb)),q,Reps.fixR z lk r (fun b hb=>hs b (by rw[e2];exact List.mem_append_right _ hb)),.inr rfl,rfl⟩
 | .obj g c ns ds,v,fp,⟨a,Ca,dx,fls,f1,f2,e,c1,n,q,r,q2,e2⟩,hs=>⟨a,Ca,dx,fls,[],[],e,c1,Jgi z lk n (fun b hb=>hs b (by rw[e2];exact List.mem_append_left _ hb)),q,Reps.fixR z lk r (fun b hb=>hs b (by rw[e2];exact List.mem_append_right _ hb)),.inr rfl,rfl⟩
 | .exc c ns ds,v,fp,⟨a,Ca,d,fls,e,c1,n,x,q,r,e2⟩,hs=>⟨a,Ca,d,fls,e,c1,z.mono.x _ _ trivial n,x.mono z.mono,q,Reps.keep r (fun b hb=>nomatch hb) z.mono,rfl⟩
theorem Reps.fixR (z:Fz S H H') (lk:∀a∈C.Lk,∃ob u,H a=some (.frz ob u)):∀{ds:List D} {vs:List V} {fp:List Addr},Reps C H ds vs fp→(∀b∈fp,b∈S)→Reps C H' (fixs ds) vs []
 | [],vs,fp,h,_=>⟨h.1,rfl⟩
 | d::ds,vs,fp,⟨v,vs',f1,f2,e,r,rs,e2⟩,hs=>⟨v,vs',[],[],e,Rep.fixR z lk r (fun b hb=>hs b (by rw[e2];exact List.mem_append_left _ hb)),Reps.fixR z lk rs (fun b hb=>hs b (by rw[e2];exact List.mem_append_right _ hb)),rfl⟩
end
theorem Good.fix {fs:FPs} {env:Env} {σ:L2.St} {tf fp:List Addr} (G:Good C fs env σ H (fp++tf)) (z:Fz fp H H'):Good C fs env σ H' tf∧∀M,Step M tf fs env H fs env H':=by
 have p:(fs.flatten++(fp++tf)).Perm (fp++(fs.flatten++tf)):=by
  rw[←List.append_assoc,←List.append_assoc];exact List.perm_append_comm.append_right _
 have nd:=p.nodup_iff.mp G.nd
 have apart:∀a∈fs.flatten++tf,a∉fp:=fun a ha hb=>(List.nodup_append.mp nd).2.2 a hb a ha rfl
 have same:∀a∈fs.flatten++tf,H' a=H a:=fun a ha=>z.o a (apart a ha)
 have m:=z.mono
 have sub:∀a∈fs.flatten++tf,a∈fs.flatten++(fp++tf):=fun a ha=>by
  rcases List.mem_append.mp ha with q | q
  ·exact List.mem_append_left _ q
  ·exact List.mem_append_right _ (List.mem_append_right _ q)
 refine⟨⟨G.le,G.lf,fun i d e=>?_,(List.nodup_append.mp nd).2.1,fun a ha=>G.own a (sub a ha),fun a ha=>?_,fun a o e na=>?_,fun a ha=>?_⟩,fun M=>⟨fun a ha=>same a (List.mem_append_right _ ha),fun _ _=>rfl,fun _ _=>rfl,fun i _ a ha=>same a (List.mem_append_left _ (QQ ha)),m⟩⟩
 ·obtain⟨v,e1,r⟩:=G.rep i d e
  exact⟨v,e1,r.keep (fun a ha=>same a (List.mem_append_left _ (QQ ha))) m⟩
 ·rw[same a ha];exact G.trk a (sub a ha)
 ·have nf:a∉fp:=fun ha=>by
   rcases G.own a (List.mem_append_right _ (List.mem_append_left _ ha)) with q | q
   ·exact na q
   ·rw[q]at e;cases e
  rw[z.o a nf];exact G.fr a o e na
 ·obtain⟨ob,u,e⟩:=G.lk a ha
  exact⟨ob,u,m.z _ _ _ e⟩
end
def FzQ:List Addr→Hp→(Hp→Prop)→Prop
 | [],H,Q=>Q H
 | a::as,H,Q=>∃u,H a=some u∧Mut (some u)∧∀od,FzQ as (L2.upd H a (.frz od u)) Q
theorem mut_of {u:HO} (h:Mutb u):Mut (some u):=by cases u<;>first | trivial | exact h.elim
theorem Jgm:∀{as:List Addr} {H:Hp} {Q:Hp→Prop},as.Nodup→(∀a∈as,∃o,H a=some o∧Mutb o)→(∀H',Fz as H H'→Q H')→FzQ as H Q
 | [],H,Q,_,_,h=>h H ⟨fun _ _=>rfl,fun _ z=>nomatch z⟩
 | a::as,H,Q,nd,tk,h=>by
  obtain⟨na,nd'⟩:=List.nodup_cons.mp nd
  obtain⟨u,e,mu⟩:=tk a (by simp)
  refine⟨u,e,mut_of mu,fun od=>Jgm nd' (fun b hb=>?_) fun H' z=>h H' ⟨fun b hb=>?_,fun b hb=>?_⟩⟩
  ·have:b≠a:=fun q=>na (q ▸ hb)
   obtain⟨o,e2,m2⟩:=tk b (by simp[hb])
   exact⟨o,by rw[upd_ne this];exact e2,m2⟩
  ·simp only[List.mem_cons,not_or]at hb
   rw[z.o b hb.2,upd_ne hb.1]
  ·rcases List.mem_cons.mp hb with q | q
   ·subst q
    exact⟨od,u,e,mu,by rw[z.o b na];exact upd_same⟩
   ·have:b≠a:=fun r=>na (r ▸ q)
    obtain⟨od2,u2,e2,m2,e3⟩:=z.i b q
    rw[upd_ne this]at e2
    exact⟨od2,u2,e2,m2,e3⟩
section
variable {X:Cx} {W:WX} {M:List Nat} {e:Expr} {c:CE}
theorem Je0 {pins:List (Addr × Obj)} {σ:L2.St} {s:Shared}:∀{as:List Addr} {H:Hp} {Q:Hp→Prop},L2.Inv X pins σ H s→FzQ as H Q→∃H',L2.Inv X pins σ H' s∧Q H'
 | [],H,Q,I,h=>⟨H,I,h⟩
 | a::as,H,Q,I,⟨u,e,mu,h⟩=>by
  obtain⟨od,I1⟩:=I.lock e mu
  exact Je0 I1 (h od)
theorem pe_fix {t:TE} (h:PE X e t):PE X e (fun σ H Q=>t σ H fun v H1=>∃as,FzQ as H1 (Q v)):=by
 refine⟨fun pins s σ H Q I hw=>thn (h.run pins s σ H _ I hw) fun u s1 ⟨v,H1,I1,r,as,q⟩=>?_⟩
 obtain⟨H2,I2,q2⟩:=Je0 I1 q
 exact⟨v,H2,I2,r,q2⟩
theorem QF (h:SO X W M e c):SO X W M e (cFix c):=by
 obtain⟨t,p,q⟩:=h.go
 refine⟨_,pe_fix p,fun C fs env σ H tf Q hC G po=>?_⟩
 show t σ H fun v H1=>_
 refine q C fs env σ H tf _ hC G ?_
 unfold cFix at po
 cases e1:c env with
 | err=>rw[e1]at po;exact po
 | ex x env'=>rw[e1]at po;exact po
 | ok d env1 =>
  rw[e1]at po
  intro v fs1 H1 fp G1 s1 r
  have nd:fp.Nodup:=(List.nodup_append.mp (List.nodup_append.mp G1.nd).2.1).1
  refine⟨fp,Jgm nd (fun a ha=>r.trk a ha) fun H2 z=>?_⟩
  obtain⟨G2,s2⟩:=G1.fix z
  have st:Step M tf fs env H fs1 env1 H2:=by
   have:=s1.trans (s2 [])
   simpa using this
  exact po v fs1 H2 [] (by simpa using G2) st (r.fixR z G1.lk fun b hb=>hb)
end
@[simp] theorem e_fix (c:CE) (env:Env):cFix c env=(c env).bind fun d env=>.ok d.fix env:=(rfl)
@[simp] theorem fixs_nil:fixs []=[]:=(rfl)
@[simp] theorem JcN (d:D) (ds:List D):fixs (d::ds)=d.fix::fixs ds:=(rfl)
@[simp] theorem Jfm (ds:List D):(D.lst .m ds).fix=.lst .f (fixs ds):=(rfl)
@[simp] theorem fix_lstf (ds:List D):(D.lst .f ds).fix=.lst .f (fixs ds):=(rfl)
@[simp] theorem fix_tup (ds:List D):(D.tup ds).fix=.tup (fixs ds):=(rfl)
@[simp] theorem fix_int (i:Int):(D.int i).fix=.int i:=(rfl)
@[simp] theorem fix_str (i:Str):(D.str i).fix=.str i:=(rfl)
@[simp] theorem fix_bl (i:Bool):(D.bl i).fix=.bl i:=(rfl)
@[simp] theorem fix_non:D.non.fix=.non:=(rfl)
@[simp] theorem fix_dctm (ks:List Key) (ds:List D):(D.dct .m ks ds).fix=.dct .f ks (fixs ds):=(rfl)
theorem Qz {α:Type} {f:α→D} (h:∀x,(f x).fix=f x):∀xs:List α,fixs (xs.map f)=xs.map f
 | []=>rfl
 | x::xs=>by rw[List.map_cons,JcN,h,Qz h xs]
end VS
namespace VS
open PySem L2 SeqAt PySem.Spec PyProof.Rows
def JgC (i:Nat) (c:CS):CS:=fun env=>match env[i]? with
 | some (some d)=>c (env.set i (some d.fix))
 | _=>.err
section
variable {X:Cx} {W:WX} {M Vs:List Nat} {st:Stmt} {sts:List Stmt} {c:CS}
theorem fix_slot {C:Ctx} {fs:FPs} {env:Env} {σ:L2.St} {H:Hp} {tf:List Addr} {i:Nat} {d:D} (G:Good C fs env σ H tf) (e:env[i]?=some (some d)):(fs.getD i []).Nodup∧(∀a∈fs.getD i [],∃o,H a=some o∧Mutb o) ∧
  ∀H',Fz (fs.getD i []) H H'→Good C (fs.set i []) (env.set i (some d.fix)) σ H' tf∧StepS [i] [] tf fs env σ H (fs.set i []) (env.set i (some d.fix)) σ H':=by
 have lt:=G.lt e
 have le:i < env.length:=(List.getElem?_eq_some_iff.mp e).1
 have G1:=G.mv e
 obtain⟨v,ev,r⟩:=G.rep i d e
 refine⟨(List.nodup_append.mp (List.nodup_append.mp G1.nd).2.1).1,fun a ha=>r.trk a ha,fun H' z=>?_⟩
 obtain⟨G2,s2⟩:=G1.fix z
 have rf:=r.fixR z G.lk fun b hb=>hb
 refine⟨⟨by simpa using G.le,G2.lf,fun j dj ej=>?_,G2.nd,G2.own,G2.trk,G2.fr,G2.lk⟩,⟨⟨(s2 []).t,fun j hj=>?_,fun j hj=>?_,fun j hj a ha=>?_,(s2 []).m⟩,fun _ _=>rfl⟩⟩
 ·rw[List.getElem?_set]at ej
  by_cases hj:i=j
  ·subst hj
   simp[le]at ej
   subst ej
   refine⟨v,ev,?_⟩
   rw[Zl fs i i [] lt,if_pos rfl];exact rf
  ·rw[if_neg hj]at ej
   exact G2.rep j dj (by rw[List.getElem?_set,if_neg hj];exact ej)
 ·rw[Zl fs i j [] lt,if_neg (by simpa using hj)]
 ·rw[List.getElem?_set,if_neg (by intro q;subst q;simp at hj)]
 ·refine (s2 []).h j (by simp) a ?_
  rw[Zl fs i j [] lt,if_neg (by simpa using hj)];exact ha
theorem ps_fix {t:TS} (h:PS X st t):PS X st (fun E σ H=>∃as,FzQ as H fun H'=>t E σ H'):=by
 refine⟨fun pins s σ H E I ⟨as,q⟩=>?_⟩
 obtain⟨H2,I2,q2⟩:=Je0 I q
 exact h.run pins s σ H2 E I2 q2
theorem ss_fixB (i:Nat) (h:SS X W M Vs st c):SS X W ([i]++M) ([]++Vs) st (JgC i c):=by
 obtain⟨t,p,q⟩:=h.go
 refine⟨_,ps_fix p,fun C fs env σ H tf E hC G po=>?_⟩
 unfold JgC at po
 split at po
 case h_2=>exact po.elim
 rename_i d e
 obtain⟨nd,tk,fin⟩:=fix_slot G e
 refine⟨fs.getD i [],Jgm nd tk fun H' z=>?_⟩
 obtain⟨G2,s2⟩:=fin H' z
 exact q C _ _ σ H' tf E hC G2 (Jao.step s2 po)
end
@[simp] theorem e_fixB (i:Nat) (c:CS) (env:Env):JgC i c env=match env[i]? with
 | some (some d)=>c (env.set i (some d.fix))
 | _=>.err:=(rfl)
end VS
namespace VS
open PySem L2 SeqAt PySem.Spec PyProof.Rows
section
variable {α β:Type} (env:Env) (i j:Nat) (c ca cb cc cd:CE) (cs:CA) (ct:CT) (ta tb:CT) (d:D) (p q:D→D→Option D) (p1:D→Option D) (pl:List D→Option D) (s1 s2:CS) (g:D→Env→Option Env) (cn f m:Str) (cl:CL) (cr:Env→R (List AV)) (φ:List D→FR)
@[simp] theorem e_pairs0:Jd8 [] env=.ok [] env:=(rfl)
@[simp] theorem e_pairs1 (r:List (CE × CE)):Jd8 ((ca,cb)::r) env=(ca env).bind fun dk env=>(cb env).bind fun dv env=>(Jd8 r env).bind fun ps env=>match dk.key with
  | some ky=>.ok ((ky,dv)::ps) env
  | none=>.err:=(rfl)
@[simp] theorem e_gsub (x:D):JaC i cl cb x env=match cl env with
 | .ok dF env1=>match cb env1 with
  | .ok y env2=>(stD dF.1 y x).map fun d'=>env2.set i (some (dF.2 d'))
  | _=>none
 | _=>none:=(rfl)
@[simp] theorem e_keyI (i:Int):(D.int i).key=some (.inl i):=(rfl)
@[simp] theorem e_keyS (s:Str):(D.str s).key=some (.inr s):=(rfl)
@[simp] theorem e_nol7 (ks:List Key) (ds:List D):(D.dct .m ks ds).nol=nols ds:=(rfl)
@[simp] theorem e_nol8 (c:Str) (ns:List Str) (ds:List D):(D.obj .m c ns ds).nol=nols ds:=(rfl)
@[simp] theorem e_nol9 (ds:List D):(D.lst .f ds).nol=nols ds:=(rfl)
@[simp] theorem e_imm7 (g:Fl) (ks:List Key) (ds:List D):(D.dct g ks ds).imm=((g == .l || g == .f) && imms ds):=(rfl)
@[simp] theorem e_imm8 (g:Fl) (c:Str) (ns:List Str) (ds:List D):(D.obj g c ns ds).imm=((g == .l || g == .f) && imms ds):=(rfl)
@[simp] theorem e_lend8 (ks:List Key) (ds:List D):(D.dct .m ks ds).lend=.dct .l ks (lends ds):=(rfl)
@[simp] theorem e_lend9 (ks:List Key) (ds:List D):(D.dct .l ks ds).lend=.dct .l ks (lends ds):=(rfl)
@[simp] theorem e_lend10 (c:Str) (ns:List Str) (ds:List D):(D.obj .m c ns ds).lend=.obj .l c ns (lends ds):=(rfl)
@[simp] theorem e_lend11 (c:Str) (ns:List Str) (ds:List D):(D.obj .l c ns ds).lend=.obj .l c ns (lends ds):=(rfl)
@[simp] theorem fl1:(Fl.m == Fl.l)=false:=(rfl)
@[simp] theorem fl2:(Fl.m == Fl.f)=false:=(rfl)
@[simp] theorem fl3:(Fl.l == Fl.l)=true:=(rfl)
@[simp] theorem fl4:(Fl.l == Fl.f)=false:=(rfl)
@[simp] theorem fl5:(Fl.f == Fl.f)=true:=(rfl)
@[simp] theorem fl6:(Fl.f == Fl.l)=false:=(rfl)
@[simp] theorem e_ltG (i j:Int):pLtG (.int i) (.int j)=some (.bl (decide (i < j))):=(rfl)
@[simp] theorem e_leG (i j:Int):pLeG (.int i) (.int j)=some (.bl (decide (i≤j))):=(rfl)
@[simp] theorem e_gtG (i j:Int):pGtG (.int i) (.int j)=some (.bl (decide (j < i))):=(rfl)
@[simp] theorem e_geG (i j:Int):pGeG (.int i) (.int j)=some (.bl (decide (j≤i))):=(rfl)
@[simp] theorem e_minG (i j:Int):JfK [.int i,.int j]=some (.int (if j < i then j else i)):=(rfl)
@[simp] theorem e_listG1 (g:Fl) (ds:List D):QE [.lst g ds]=if imms ds then some (.lst .m ds) else none:=(rfl)
@[simp] theorem e_listG2 (ds:List D):QE [.tup ds]=if imms ds then some (.lst .m ds) else none:=(rfl)
@[simp] theorem e_listG3 (g:Fl) (ks:List Key) (ds:List D):QE [.dct g ks ds]=some (.lst .m (ks.map keyD)):=(rfl)
@[simp] theorem e_dictG1 (g:Fl) (ks:List Key) (ds:List D):Jaw [.dct g ks ds]=if imms ds then some (.dct .m ks ds) else none:=(rfl)
@[simp] theorem JfS (g:Fl) (ds:List D):Jaw [.lst g ds]=Jd1 [.lst g ds]:=(rfl)
@[simp] theorem e_len3 (g:Fl) (ks:List Key) (ds:List D):pLen [.dct g ks ds]=some (.int ks.length):=(rfl)
@[simp] theorem e_len4 (z:Str):pLen [.str z]=if z.length≤sizeLine then some (.int z.length) else none:=(rfl)
@[simp] theorem e_ix3 (g:Fl) (ks:List Key) (ds:List D) (y:D):ixD (.dct g ks ds) y=y.key.bind fun k=>Qw ks ds k:=by
 cases y<;>rfl
@[simp] theorem Ql {α:Type} {f:α→D} (h:∀x,(f x).imm=true):∀xs:List α,imms (xs.map f)=true
 | []=>rfl
 | x::xs=>by simp[h x,Ql h xs]
@[simp] theorem JcM {α:Type} {f:α→D} (h:∀x,(f x).lend=f x):∀xs:List α,lends (xs.map f)=xs.map f
 | []=>rfl
 | x::xs=>by simp[h x,JcM h xs]
@[simp] theorem JfX {α:Type} {f:α→D} (h:∀x,(f x).nol=true):∀xs:List α,nols (xs.map f)=true
 | []=>rfl
 | x::xs=>by simp[h x,JfX h xs]
@[simp] theorem imms_app:∀(xs ys:List D),imms (xs++ys)=(imms xs && imms ys)
 | [],ys=>by simp
 | x::xs,ys=>by simp[imms_app xs ys,Bool.and_assoc]
@[simp] theorem nols_app:∀(xs ys:List D),nols (xs++ys)=(nols xs && nols ys)
 | [],ys=>by simp
 | x::xs,ys=>by simp[nols_app xs ys,Bool.and_assoc]
@[simp] theorem lends_app:∀(xs ys:List D),lends (xs++ys)=lends xs++lends ys
 | [],ys=>by simp
 | x::xs,ys=>by simp[lends_app xs ys]
end
section
variable {κ:Type} [DecidableEq κ] (kf:κ→Key) (hk:∀a b,kf a=kf b→a=b)
def up1 (g:κ→D) (n:κ) (x:D):κ→D:=fun m=>if m=n then x else g m
include hk
theorem Jfp:∀(ns:List κ) (g:κ→D) (n:κ),Qw (ns.map kf) (ns.map g) (kf n)=if n∈ns then some (g n) else none
 | [],g,n=>by simp[Qw]
 | m::ns,g,n=>by
  simp only[List.map_cons,Qw]
  by_cases h:m=n
  ·subst h;simp
  ·rw[if_neg (fun z=>h (hk _ _ z)),Jfp ns g n]
   have:n≠m:=fun z=>h z.symm
   simp[this]
theorem Jff:∀(ns:List κ) (n:κ),idxK (ns.map kf) (kf n)=if n∈ns then some (ns.findIdx (· == n)) else none
 | [],n=>by simp[idxK]
 | m::ns,n=>by
  simp only[List.map_cons,idxK]
  by_cases h:m=n
  ·subst h;simp[List.findIdx_cons]
  ·rw[if_neg (fun z=>h (hk _ _ z)),Jff ns n]
   have h2:n≠m:=fun z=>h z.symm
   by_cases h3:n∈ns
   ·have hb:(m == n)=false:=by simpa using h
    simp[h3,List.findIdx_cons,hb]
   ·simp[h3,h2]
omit hk in
theorem JfV:∀(ns:List κ) (g:κ→D) (n:κ) (x:D),ns.Nodup→n∈ns→(ns.map g).set (ns.findIdx (· == n)) x=ns.map (up1 g n x)
 | [],g,n,x,_,h=>by cases h
 | m::ns,g,n,x,nd,h=>by
  have nd':=List.nodup_cons.mp nd
  by_cases e:m=n
  ·subst e
   have:ns.map g=ns.map (up1 g m x):=List.map_congr_left fun y hy=>by
    have:y≠m:=fun z=>nd'.1 (z ▸ hy)
    simp[up1,this]
   simp[List.findIdx_cons,up1,this]
  ·have h2:n∈ns:=(List.mem_cons.mp h).resolve_left fun z=>e z.symm
   have ih:=JfV ns g n x nd'.2 h2
   have hb:(m == n)=false:=by simpa using e
   simp[List.findIdx_cons,hb,ih,up1,e]
end
section
variable {ns:List Str} {g:Str→D} {n:Str} {x:D} {fl:Fl}
theorem Jdn:∀a b:Str,(Sum.inr a:Key)=Sum.inr b→a=b:=fun a b h=>by cases h;rfl
@[simp] theorem Jgt:Qw (ns.map Sum.inr) (ns.map g) (Sum.inr n)=if n∈ns then some (g n) else none:=Jfp Sum.inr Jdn ns g n
end
end VS
namespace VS
open PySem
abbrev J:=Str × Str × Int
inductive Reach (js:List J):Str→Str→Int→Prop
 | refl (a:Str):Reach js a a 0
 | fwd {a b c:Str} {o s:Int}:Reach js a b o→(b,c,s)∈js→Reach js a c (o+s)
 | bwd {a b c:Str} {o s:Int}:Reach js a b o→(c,b,s)∈js→Reach js a c (o - s)
def Conn (js:List J) (a b:Str):Prop:=∃o,Reach js a b o
section
variable {js js':List J} {a b c:Str} {o o' s:Int}
theorem Reach.trans (h:Reach js a b o) (h':Reach js b c o'):Reach js a c (o+o'):=by
 induction h' with
 | refl=>simpa using h
 | fwd r m ih=>have:=Reach.fwd (ih) m;rwa[Int.add_assoc]at this
 | bwd r m ih=>have:=Reach.bwd (ih) m;rwa[Int.add_sub_assoc]at this
theorem Reach.symm (h:Reach js a b o):Reach js b a (-o):=by
 induction h with
 | refl=>exact .refl _
 | @fwd b c o s r m ih =>
  have:=(Reach.bwd (.refl c) m).trans ih
  have e:(0:Int) - s+-o=-(o+s):=by omega
  rwa[e]at this
 | @bwd b c o s r m ih =>
  have:=(Reach.fwd (.refl c) m).trans ih
  have e:(0:Int)+s+-o=-(o - s):=by omega
  rwa[e]at this
theorem Reach.mono (h:Reach js a b o) (hm:∀j∈js,j∈js'):Reach js' a b o:=by
 induction h with
 | refl=>exact .refl _
 | fwd r m ih=>exact .fwd ih (hm _ m)
 | bwd r m ih=>exact .bwd ih (hm _ m)
theorem Reach.one (m:(a,b,s)∈js):Reach js a b s:=by have:=Reach.fwd (.refl a) m;simpa using this
theorem Conn.refl (a:Str):Conn js a a:=⟨0,.refl a⟩
theorem Conn.symm (h:Conn js a b):Conn js b a:=h.elim fun o r=>⟨-o,r.symm⟩
theorem Conn.trans (h:Conn js a b) (h':Conn js b c):Conn js a c:=h.elim fun o r=>h'.elim fun o' r'=>⟨o+o',r.trans r'⟩
theorem Conn.mono (h:Conn js a b) (hm:∀j∈js,j∈js'):Conn js' a b:=h.elim fun o r=>⟨o,r.mono hm⟩
theorem Jep {x y:Str}:Conn (js++[(a,b,s)]) x y↔Conn js x y∨(Conn js x a∧Conn js b y)∨(Conn js x b∧Conn js a y):=by
 constructor
 ·rintro ⟨o,r⟩
  induction r with
  | refl=>exact .inl (.refl _)
  | @fwd p q o s' r m ih =>
   rcases List.mem_append.mp m with m | m
   ·have h1:Conn js p q:=⟨_,.one m⟩
    rcases ih with h | ⟨h,h'⟩ | ⟨h,h'⟩
    ·exact .inl (h.trans h1)
    ·exact .inr (.inl ⟨h,h'.trans h1⟩)
    ·exact .inr (.inr ⟨h,h'.trans h1⟩)
   ·simp at m
    obtain⟨rfl,rfl,rfl⟩:=m
    rcases ih with h | ⟨h,h'⟩ | ⟨h,h'⟩
    ·exact .inr (.inl ⟨h,.refl _⟩)
    ·exact .inr (.inl ⟨h,.refl _⟩)
    ·exact .inl h
  | @bwd p q o s' r m ih =>
   rcases List.mem_append.mp m with m | m
   ·have h1:Conn js p q:=Conn.symm ⟨_,.one m⟩
    rcases ih with h | ⟨h,h'⟩ | ⟨h,h'⟩
    ·exact .inl (h.trans h1)
    ·exact .inr (.inl ⟨h,h'.trans h1⟩)
    ·exact .inr (.inr ⟨h,h'.trans h1⟩)
   ·simp at m
    obtain⟨rfl,rfl,rfl⟩:=m
    rcases ih with h | ⟨h,h'⟩ | ⟨h,h'⟩
    ·exact .inr (.inr ⟨h,.refl _⟩)
    ·exact .inl h
    ·exact .inr (.inr ⟨h,.refl _⟩)
 ·have hm:∀j∈js,j∈js++[(a,b,s)]:=fun j h=>List.mem_append_left _ h
  have h1:Conn (js++[(a,b,s)]) a b:=⟨s,.one (by simp)⟩
  rintro (h | ⟨h,h'⟩ | ⟨h,h'⟩)
  ·exact h.mono hm
  ·exact(h.mono hm).trans (h1.trans (h'.mono hm))
  ·exact(h.mono hm).trans (h1.symm.trans (h'.mono hm))
def cnt (t n:Int):Int:=if t=0 then n else n % t
def Jgl (ns:List Str) (js:List J):Prop:=∀a b s,(a,b,s)∈js→a∈ns∧b∈ns
theorem Reach.mem {ns:List Str} (w:Jgl ns js) (h:Reach js a b o) (ha:a∈ns):b∈ns:=by
 induction h with
 | refl=>exact ha
 | fwd r m ih=>exact(w _ _ _ m).2
 | bwd r m ih=>exact(w _ _ _ m).1
theorem Conn.mem {ns:List Str} (w:Jgl ns js) (h:Conn js a b) (ha:a∈ns):b∈ns:=h.elim fun _ r=>r.mem w ha
end
end VS
namespace VS
open PySem L2 SeqAt PySem.Spec PyProof.Rows
theorem Jdd {α:Type} {f:α→D} {xs:List α} {r:Int} (h0:0≤r) (h1:r < xs.length):∃(x:α),x∈xs∧xs[r.toNat]?=some x∧atI (xs.map f) r=some (f x):=by
 have hn:r.toNat < xs.length:=by omega
 have e:r=((r.toNat:Nat):Int):=by omega
 have e2:=Ze (xs:=xs.map f) (k:=r.toNat) (by simpa using hn)
 rw[←e]at e2
 exact⟨xs[r.toNat],List.getElem_mem hn,by simp[hn],by rw[e2];simp[hn]⟩
theorem ZB {α:Type} (xs:List α) (x:α):atI (xs++[x]) (-1)=some x:=by
 unfold atI ixN
 rw[if_neg (by omega),if_pos (by simp;omega)]
 have e:(-1+((xs.length:Int)+1)).toNat=xs.length:=by omega
 simp[e]
theorem putP_new {ks:List Key} {ds:List D} {k:Key} {x:D} (h:k∉ks):putP (ks,ds) k x=(ks++[k],ds++[x]):=by
 unfold putP
 have:idxK ks k=none:=by
  cases q:idxK ks k with
  | none=>rfl
  | some j=>exact absurd (List.mem_of_getElem? (JdR q)) h
 simp[this]
theorem Jh9:∀(ps:List (Key × D)) (kd:List Key × List D),(kd.1++ps.map (·.1)).Nodup→ps.foldl (fun acc p=>putP acc p.1 p.2) kd=(kd.1++ps.map (·.1),kd.2++ps.map (·.2))
 | [],kd,_=>by simp
 | p::ps,kd,h=>by
  have hp:p.1∉kd.1:=fun z=>(List.nodup_append.mp h).2.2 p.1 z p.1 (by simp) rfl
  have e:=putP_new (ds:=kd.2) (x:=p.2) hp
  have e':putP kd p.1 p.2=(kd.1++[p.1],kd.2++[p.2]):=e
  rw[List.foldl_cons,e',Jh9 ps _ (by simpa using h)]
  simp
theorem Jfa (s:Str):pyO (.str s)=.str s:=rfl
theorem Jei:∀ns:List Str,pys (ns.map D.str)=some (ns.map PyData.str)
 | []=>rfl
 | n::ns=>by simp[pys,D.py,Jei ns]
theorem Jc7 {ns:List Str} (h:ns.length≤1000):JcH (ns.map D.str)=true:=by
 unfold JcH
 simp only[Bool.and_eq_true]
 refine⟨⟨⟨⟨⟨by rw[Jei];rfl,by simp⟩,?_⟩,?_⟩,?_⟩,by simpa using UY h⟩
 ·simp[JcS,Jfa,PySem.W.alike]
 ·simp[JaS,Jfa]
 ·simp[Jbp,Jfa,PyData.depth]
def leS (a b:Str):Bool:=leD (.str a) (.str b)
def YW (ns:List Str):List Str:=ns.mergeSort leS
theorem Uh (ns:List Str):(YW ns).Perm ns:=List.mergeSort_perm _ _
theorem JaA {g:Fl} {ns:List Str} (h:ns.length≤1000):YE [.lst g (ns.map D.str)]=some (.lst .m ((YW ns).map D.str)):=by
 unfold YE
 simp only[Jgo,Option.bind_some,Jc7 h,if_true]
 unfold YW
 rw[List.map_mergeSort (f:=D.str) (r:=leS) (s:=leD) fun a _ b _=>rfl]
theorem sortG_tups {ns:List Str} (h:ns.length≤1000):YE [.tup (ns.map D.str)]=some (.lst .m ((YW ns).map D.str)):=by
 unfold YE
 simp only[Jgo,Option.bind_some,Jc7 h,if_true]
 unfold YW
 rw[List.map_mergeSort (f:=D.str) (r:=leS) (s:=leD) fun a _ b _=>rfl]
end VS
namespace VS
open PySem L2 SeqAt PySem.Spec PyProof.Rows
theorem QS {n:Nat} (h:n≤1000000):n < sizeLine :=
 have e:sizeLine=16777216:=by decide +kernel
 by omega
theorem Yh {n:Nat} (h:n≤1000000):n≤sizeLine:=Nat.le_of_lt (QS h)
theorem QD {α:Type} {f:α→D} {g:D→Env→Option Env} {body:CS} (P:List α→Env→Prop) (h:∀x xs env,P (x::xs) env→∃env1 env2,g (f x) env=some env1∧body env1=.nx env2∧P xs env2):∀(xs:List α) (env:Env),P xs env→∃env',UH g body (xs.map f) env=.nx env'∧P [] env'
 | [],env,h0=>⟨env,rfl,h0⟩
 | x::xs,env,h0=>by
  obtain⟨env1,env2,h1,h2,h3⟩:=h x xs env h0
  obtain⟨env',k1,k2⟩:=QD P h xs env2 h3
  exact⟨env',by rw[List.map_cons,Ja4 h1 h2];exact k1,k2⟩
section
variable {κ:Type} [DecidableEq κ] (kf:κ→Key) (hk:∀a b,kf a=kf b→a=b)
include hk
theorem put_new {ns:List κ} {g:κ→D} {n:κ} {x:D} (h:n∉ns):putD (ns.map kf) (ns.map g) (kf n) x=.dct .m ((ns++[n]).map kf) ((ns++[n]).map (up1 g n x)):=by
 unfold putD
 rw[Jff kf hk,if_neg h]
 simp only[List.map_append,List.map_cons,List.map_nil]
 have e:ns.map (up1 g n x)=ns.map g:=List.map_congr_left fun y hy=>by
  have:y≠n:=fun z=>h (z ▸ hy)
  simp[up1,this]
 rw[e];simp[up1]
end
theorem st_new {ns:List Str} {g:Str→D} {n:Str} {x:D} (h:n∉ns) (hl:ns.length < sizeLine):stD (.dct .m (ns.map Sum.inr) (ns.map g)) (.str n) x=some (.dct .m ((ns++[n]).map Sum.inr) ((ns++[n]).map (up1 g n x))):=by
 have:=put_new Sum.inr Jdn (g:=g) (x:=x) h
 simp only[stD,e_keyS,Option.bind_some,List.length_map,hl,if_true,Option.map_some,this]
@[simp] theorem isi_non_bool:pIsi [.non,.ty "bool"]=some (.bl false):=(rfl)
@[simp] theorem isi_non_int:pIsi [.non,.ty "int"]=some (.bl false):=(rfl)
@[simp] theorem isi_non_str:pIsi [.non,.ty "str"]=some (.bl false):=(rfl)
@[simp] theorem isi_non_list:pIsi [.non,.ty "list"]=some (.bl false):=(rfl)
@[simp] theorem isi_non_tuple:pIsi [.non,.ty "tuple"]=some (.bl false):=(rfl)
@[simp] theorem isi_non_dict:pIsi [.non,.ty "dict"]=some (.bl false):=(rfl)
@[simp] theorem isi_non_list_tuple:pIsi [.non,.tup [.ty "list", .ty "tuple"]]=some (.bl false):=(rfl)
@[simp] theorem isi_non_tuple_list:pIsi [.non,.tup [.ty "tuple", .ty "list"]]=some (.bl false):=(rfl)
@[simp] theorem isi_non_int_str:pIsi [.non,.tup [.ty "int", .ty "str"]]=some (.bl false):=(rfl)
@[simp] theorem isi_non_list_dict:pIsi [.non,.tup [.ty "list", .ty "dict"]]=some (.bl false):=(rfl)
@[simp] theorem is_bl (b:Bool):pIs (.bl b) .non=some (.bl false):=(rfl)
@[simp] theorem isn_bl (b:Bool):ZY (.bl b) .non=some (.bl true):=(rfl)
@[simp] theorem isi_bl_bool (b:Bool):pIsi [(.bl b),.ty "bool"]=some (.bl true):=(rfl)
@[simp] theorem isi_bl_int (b:Bool):pIsi [(.bl b),.ty "int"]=some (.bl true):=(rfl)
@[simp] theorem isi_bl_str (b:Bool):pIsi [(.bl b),.ty "str"]=some (.bl false):=(rfl)
@[simp] theorem isi_bl_list (b:Bool):pIsi [(.bl b),.ty "list"]=some (.bl false):=(rfl)
@[simp] theorem isi_bl_tuple (b:Bool):pIsi [(.bl b),.ty "tuple"]=some (.bl false):=(rfl)
@[simp] theorem isi_bl_dict (b:Bool):pIsi [(.bl b),.ty "dict"]=some (.bl false):=(rfl)
@[simp] theorem isi_bl_list_tuple (b:Bool):pIsi [(.bl b),.tup [.ty "list", .ty "tuple"]]=some (.bl false):=(rfl)
@[simp] theorem isi_bl_tuple_list (b:Bool):pIsi [(.bl b),.tup [.ty "tuple", .ty "list"]]=some (.bl false):=(rfl)
@[simp] theorem isi_bl_int_str (b:Bool):pIsi [(.bl b),.tup [.ty "int", .ty "str"]]=some (.bl true):=(rfl)
@[simp] theorem isi_bl_list_dict (b:Bool):pIsi [(.bl b),.tup [.ty "list", .ty "dict"]]=some (.bl false):=(rfl)
@[simp] theorem is_int (i:Int):pIs (.int i) .non=some (.bl false):=(rfl)
@[simp] theorem isn_int (i:Int):ZY (.int i) .non=some (.bl true):=(rfl)
@[simp] theorem isi_int_bool (i:Int):pIsi [(.int i),.ty "bool"]=some (.bl false):=(rfl)
@[simp] theorem isi_int_int (i:Int):pIsi [(.int i),.ty "int"]=some (.bl true):=(rfl)
@[simp] theorem isi_int_str (i:Int):pIsi [(.int i),.ty "str"]=some (.bl false):=(rfl)
@[simp] theorem isi_int_list (i:Int):pIsi [(.int i),.ty "list"]=some (.bl false):=(rfl)
@[simp] theorem isi_int_tuple (i:Int):pIsi [(.int i),.ty "tuple"]=some (.bl false):=(rfl)
@[simp] theorem isi_int_dict (i:Int):pIsi [(.int i),.ty "dict"]=some (.bl false):=(rfl)
@[simp] theorem isi_int_list_tuple (i:Int):pIsi [(.int i),.tup [.ty "list", .ty "tuple"]]=some (.bl false):=(rfl)
@[simp] theorem isi_int_tuple_list (i:Int):pIsi [(.int i),.tup [.ty "tuple", .ty "list"]]=some (.bl false):=(rfl)
@[simp] theorem isi_int_int_str (i:Int):pIsi [(.int i),.tup [.ty "int", .ty "str"]]=some (.bl true):=(rfl)
@[simp] theorem isi_int_list_dict (i:Int):pIsi [(.int i),.tup [.ty "list", .ty "dict"]]=some (.bl false):=(rfl)
@[simp] theorem is_str (s:Str):pIs (.str s) .non=some (.bl false):=(rfl)
@[simp] theorem isn_str (s:Str):ZY (.str s) .non=some (.bl true):=(rfl)
@[simp] theorem isi_str_bool (s:Str):pIsi [(.str s),.ty "bool"]=some (.bl false):=(rfl)
@[simp] theorem isi_str_int (s:Str):pIsi [(.str s),.ty "int"]=some (.bl false):=(rfl)
@[simp] theorem isi_str_str (s:Str):pIsi [(.str s),.ty "str"]=some (.bl true):=(rfl)
@[simp] theorem isi_str_list (s:Str):pIsi [(.str s),.ty "list"]=some (.bl false):=(rfl)
@[simp] theorem isi_str_tuple (s:Str):pIsi [(.str s),.ty "tuple"]=some (.bl false):=(rfl)
@[simp] theorem isi_str_dict (s:Str):pIsi [(.str s),.ty "dict"]=some (.bl false):=(rfl)
@[simp] theorem isi_str_list_tuple (s:Str):pIsi [(.str s),.tup [.ty "list", .ty "tuple"]]=some (.bl false):=(rfl)
@[simp] theorem isi_str_tuple_list (s:Str):pIsi [(.str s),.tup [.ty "tuple", .ty "list"]]=some (.bl false):=(rfl)
@[simp] theorem isi_str_int_str (s:Str):pIsi [(.str s),.tup [.ty "int", .ty "str"]]=some (.bl true):=(rfl)
@[simp] theorem isi_str_list_dict (s:Str):pIsi [(.str s),.tup [.ty "list", .ty "dict"]]=some (.bl false):=(rfl)
@[simp] theorem is_tup (ds:List D):pIs (.tup ds) .non=some (.bl false):=(rfl)
@[simp] theorem isn_tup (ds:List D):ZY (.tup ds) .non=some (.bl true):=(rfl)
@[simp] theorem isi_tup_bool (ds:List D):pIsi [(.tup ds),.ty "bool"]=some (.bl false):=(rfl)
@[simp] theorem isi_tup_int (ds:List D):pIsi [(.tup ds),.ty "int"]=some (.bl false):=(rfl)
@[simp] theorem isi_tup_str (ds:List D):pIsi [(.tup ds),.ty "str"]=some (.bl false):=(rfl)
@[simp] theorem isi_tup_list (ds:List D):pIsi [(.tup ds),.ty "list"]=some (.bl false):=(rfl)
@[simp] theorem isi_tup_tuple (ds:List D):pIsi [(.tup ds),.ty "tuple"]=some (.bl true):=(rfl)
@[simp] theorem isi_tup_dict (ds:List D):pIsi [(.tup ds),.ty "dict"]=some (.bl false):=(rfl)
@[simp] theorem isi_tup_list_tuple (ds:List D):pIsi [(.tup ds),.tup [.ty "list", .ty "tuple"]]=some (.bl true):=(rfl)
@[simp] theorem isi_tup_tuple_list (ds:List D):pIsi [(.tup ds),.tup [.ty "tuple", .ty "list"]]=some (.bl true):=(rfl)
@[simp] theorem isi_tup_int_str (ds:List D):pIsi [(.tup ds),.tup [.ty "int", .ty "str"]]=some (.bl false):=(rfl)
@[simp] theorem isi_tup_list_dict (ds:List D):pIsi [(.tup ds),.tup [.ty "list", .ty "dict"]]=some (.bl false):=(rfl)
@[simp] theorem is_lst (g:Fl) (ds:List D):pIs (.lst g ds) .non=some (.bl false):=(rfl)
@[simp] theorem isn_lst (g:Fl) (ds:List D):ZY (.lst g ds) .non=some (.bl true):=(rfl)
@[simp] theorem isi_lst_bool (g:Fl) (ds:List D):pIsi [(.lst g ds),.ty "bool"]=some (.bl false):=(rfl)
@[simp] theorem isi_lst_int (g:Fl) (ds:List D):pIsi [(.lst g ds),.ty "int"]=some (.bl false):=(rfl)
@[simp] theorem isi_lst_str (g:Fl) (ds:List D):pIsi [(.lst g ds),.ty "str"]=some (.bl false):=(rfl)
@[simp] theorem isi_lst_list (g:Fl) (ds:List D):pIsi [(.lst g ds),.ty "list"]=some (.bl true):=(rfl)
@[simp] theorem isi_lst_tuple (g:Fl) (ds:List D):pIsi [(.lst g ds),.ty "tuple"]=some (.bl false):=(rfl)
@[simp] theorem isi_lst_dict (g:Fl) (ds:List D):pIsi [(.lst g ds),.ty "dict"]=some (.bl false):=(rfl)
@[simp] theorem isi_lst_list_tuple (g:Fl) (ds:List D):pIsi [(.lst g ds),.tup [.ty "list", .ty "tuple"]]=some (.bl true):=(rfl)
@[simp] theorem isi_lst_tuple_list (g:Fl) (ds:List D):pIsi [(.lst g ds),.tup [.ty "tuple", .ty "list"]]=some (.bl true):=(rfl)
@[simp] theorem isi_lst_int_str (g:Fl) (ds:List D):pIsi [(.lst g ds),.tup [.ty "int", .ty "str"]]=some (.bl false):=(rfl)
@[simp] theorem isi_lst_list_dict (g:Fl) (ds:List D):pIsi [(.lst g ds),.tup [.ty "list", .ty "dict"]]=some (.bl true):=(rfl)
@[simp] theorem is_dct (g:Fl) (ks:List Key) (ds:List D):pIs (.dct g ks ds) .non=some (.bl false):=(rfl)
@[simp] theorem isn_dct (g:Fl) (ks:List Key) (ds:List D):ZY (.dct g ks ds) .non=some (.bl true):=(rfl)
@[simp] theorem isi_dct_bool (g:Fl) (ks:List Key) (ds:List D):pIsi [(.dct g ks ds),.ty "bool"]=some (.bl false):=(rfl)
@[simp] theorem isi_dct_int (g:Fl) (ks:List Key) (ds:List D):pIsi [(.dct g ks ds),.ty "int"]=some (.bl false):=(rfl)
@[simp] theorem isi_dct_str (g:Fl) (ks:List Key) (ds:List D):pIsi [(.dct g ks ds),.ty "str"]=some (.bl false):=(rfl)
@[simp] theorem isi_dct_list (g:Fl) (ks:List Key) (ds:List D):pIsi [(.dct g ks ds),.ty "list"]=some (.bl false):=(rfl)
@[simp] theorem isi_dct_tuple (g:Fl) (ks:List Key) (ds:List D):pIsi [(.dct g ks ds),.ty "tuple"]=some (.bl false):=(rfl)
@[simp] theorem isi_dct_dict (g:Fl) (ks:List Key) (ds:List D):pIsi [(.dct g ks ds),.ty "dict"]=some (.bl true):=(rfl)
@[simp] theorem isi_dct_list_tuple (g:Fl) (ks:List Key) (ds:List D):pIsi [(.dct g ks ds),.tup [.ty "list", .ty "tuple"]]=some (.bl false):=(rfl)
@[simp] theorem isi_dct_tuple_list (g:Fl) (ks:List Key) (ds:List D):pIsi [(.dct g ks ds),.tup [.ty "tuple", .ty "list"]]=some (.bl false):=(rfl)
@[simp] theorem isi_dct_int_str (g:Fl) (ks:List Key) (ds:List D):pIsi [(.dct g ks ds),.tup [.ty "int", .ty "str"]]=some (.bl false):=(rfl)
@[simp] theorem isi_dct_list_dict (g:Fl) (ks:List Key) (ds:List D):pIsi [(.dct g ks ds),.tup [.ty "list", .ty "dict"]]=some (.bl true):=(rfl)
@[simp] theorem is_bb (a b:Bool):pIs (.bl a) (.bl b)=some (.bl (decide (a=b))):=(rfl)
@[simp] theorem isn_bb (a b:Bool):ZY (.bl a) (.bl b)=some (.bl (!decide (a=b))):=(rfl)
end VS
set_option maxHeartbeats 6400000
namespace VS
open PySem L2 SeqAt PySem.Spec PyProof.Rows
abbrev set0 (w:World):Obj:={ cls:=.type "set", dict:=none,data:=.set #[] 0 (.fresh 0 0 (!w.params.followText "set-order")) }
structure SetRun (P:Program) (w:World) (n:Nat) (Vl:Nat→Value→Prop) (Sp:Nat→Heap→Addr→Prop):Prop where
 start:∀{h:Heap} {a:Addr},h.get? a=some (set0 w)→Sp 0 h a
 keep:∀{i:Nat} {h h':Heap} {a:Addr},Sp i h a→(∀o,h.get? a=some o→h'.get? a=some o)→Sp i h' a
 add:∀{i:Nat} {a:Addr} {v:Value} {A:Around} {E:Value→Shared→Prop} {s:Shared} {Q:Bool→Shared→Prop},i < n→Sp i s.heap a→Vl i v →
  (∀(b:Bool) (h':Heap) (tk:Nat),Heap.SameBut a s.heap h'→s.toks≤tk→Sp (i+1) h' a→Q b { s with heap:=h',toks:=tk })→wpAny (model P w) A (setAdd a v) Q E s
section
variable {P:Program} {w:World} {A:Around} {E:Value→Shared→Prop} {s:Shared}
theorem SetRun.loop {Sp:Nat→Heap→Addr→Prop} {Vl Pv:Nat→Value→Prop} {I S:Addr} {fp wr:List Addr} {g:Array GenState→Array GenState→Prop} {n:Nat} {St:Nat→Shared→Prop} {R:Result→Shared→Prop} (G:SetRun P w n Vl Sp)
  (Wk:WalksS P w A.in1 I fp wr g n Pv St) (nS:S∉fp) (hv:∀i v,Pv i v→Vl i v) :
  ∀(k i:Nat) (t:Shared),n - i=k→i≤n→St i t→Sp i t.heap S→(∀t',Moved (S::wr) g t t'→Sp n t'.heap S→R (.ok (.ret .none)) t')→codeAny (model P w) A (.builtin "set.update.loop" ⟨[.ref S,.ref I],[]⟩) R t:=by
 have nW:S∉wr:=fun h=>nS (Wk.sub _ h)
 have up:∀b∈wr,b∈S::wr:=fun b hb=>List.mem_cons_of_mem _ hb
 intro k
 induction k with
 | zero =>
  intro i t hk hi hst sp fin
  obtain rfl:i=n:=by omega
  refine codeAny_builtin F.entry_set_update_loop ?_
  rw[Around.under_plainId F.plain_set_update_loop _]
  refine (show wpAny _ A.in1 (pyNext (.ref I) >>= _) _ _ t from wpAny_bind (Wk.done t _ _ hst fun t' hm=>?_))
  exact(show wpAny _ A.in1 (ret Value.none) _ _ t' from wpAny_pure (fin t' (hm.mono up) (G.keep sp fun o e=>hm.heap S o nW e)))
 | succ k ih =>
  intro i t hk hi hst sp fin
  have lt:i < n:=by omega
  refine codeAny_builtin F.entry_set_update_loop ?_
  rw[Around.under_plainId F.plain_set_update_loop _]
  refine (show wpAny _ A.in1 (pyNext (.ref I) >>= _) _ _ t from wpAny_bind (Wk.item i t _ _ lt hst fun v t' hP hst' hm=>?_))
  refine (show wpAny _ A.in1 (holding [v] (setAdd S v) >>= _) _ _ t' from wpAny_bind (wpAny_holding ?_))
  refine G.add lt (G.keep sp fun o e=>hm.heap S o nW e) (hv i v hP) fun b h' tk sb htk sp'=>?_
  refine wpAny_pure ⟨plainId_quiet F.plain_set_update_loop _,ih (i+1) _ (by omega) lt (Wk.frame _ t' _ _ hst' htk fun b hb o e=>?_) sp' fun t2 hm2 sp2=>fin t2 (Moved.trans Wk.gtrans ((hm.mono up).then_heap htk fun b o hb e=>?_) hm2) sp2⟩
  ·rw[sb.2 b (fun z:b=S=>nS (z ▸ hb))];exact e
  ·rw[sb.2 b (fun z:b=S=>hb (by rw[z];exact List.mem_cons_self))];exact e
theorem call_set_lst {Sp:Nat→Heap→Addr→Prop} {Vl:Nat→Value→Prop} {l:Addr} {its:Array Value} {Q:Value→Shared→Prop} (G:SetRun P w its.size Vl Sp) (nh:A.handled=none) (hl:s.heap.IsList l its) (hv:∀i v,its[i]?=some v→Vl i v)
  (done:∀(h':Heap) (tk:Nat),Sp its.size h' s.heap.objs.size→(∀b o,s.heap.get? b=some o→h'.get? b=some o)→Q (.ref s.heap.objs.size) { s with heap:=h',toks:=tk }) :
  wpAny (model P w) A (call (.type "set") [.ref l]) Q E s:=by
 obtain⟨_,_,facts_mro⟩:=F.called_set.mro
 have facts_made:=F.called_set.made
 have facts_sub:=F.called_set.sub
 refine wpAny_call (codeAny_of_tree (show wpAny _ _ (callAny (.type "set") _) _ _ _ from ?_))
 refine wpAny_pure ⟨Code.quiet_builtin _ (by decide +kernel),codeAny_builtin F.entry_type_call ?_⟩
 rw[Around.under_plain (weight_type_call_type "set" [.ref l] []) rfl]
 have facts_nt:=F.called_set.notType
 have facts_cc:=F.called_set.canCreate
 have facts_tc:=F.typeCall_set_1 (.ref l)
 repeat (any_goals (first | assumption | wp_step))
 refine codeAny_mono (L2.code_set_led1 (.ref l) (E:=E) (Q₁:=fun ob t1=>ob=.ref s.heap.objs.size∧t1={ s with heap:=s.heap.push (set0 w) }) ⟨rfl,rfl⟩) fun out t1 hr=>?_
 rcases out with e | fl
 ·exact hr
 cases fl with
 | ret ob =>
  obtain⟨rfl,rfl⟩:=hr
  have at0:(s.heap.push (set0 w)).get? s.heap.objs.size=some (set0 w):=Heap.get?_push_size _ rfl
  have ty0:Shared.TypeIs { s with heap:=s.heap.push (set0 w) } (.ref s.heap.objs.size) "set" := ⟨_,at0,rfl⟩
  have facts_il:=F.called_set.init.lookup
  have facts_ib:=F.called_set.init.bind (.ref s.heap.objs.size)
  repeat (any_goals (first | assumption | wp_step))
  refine codeAny_mono (codeAny_call_builtin (R:=wants (fun r t2=>r=.none∧∃h' tk,t2={ s with heap:=h',toks:=tk }∧Sp its.size h' s.heap.objs.size∧(∀b o,s.heap.get? b=some o→h'.get? b=some o)) E)
   F.called_set.init.plain F.entry_set_init (check_set_init_1 ty0 ?_)) fun out2 t2 hr2=>?_
  ·obtain⟨ol,hol,hcl,nl,hdl⟩:=hl
   obtain⟨oc,od,odt,osl⟩:=ol
   simp only at hcl hdl
   subst hcl hdl
   have hol':(s.heap.push (set0 w)).get? l=some { cls:=.type "list", dict:=od,data:=.seq its nl,slots:=osl }:=Heap.get?_push_of_some _ hol
   have facts_s1:=F.sub_list_set
   have facts_s2:=F.sub_list_frozenset
   have facts_ne:(Value.type "list" == Value.type "dict")=false:=by decide
   have hl1:(s.heap.push (set0 w)).IsList l its:=⟨_,hol',rfl,nl,rfl⟩
   unfold Builtin.«set.__init__» noKeywords Builtin.Frozenset.updateFrom
   generalize hIT:pyIter=IT
   wp_walk
   subst hIT
   refine wpAny_pyIter_list hl1 (wpAny_bind (wpAny_runValue ?_))
   have lt:l < s.heap.objs.size:=Heap.lt_size hol
   have sz:(s.heap.push (set0 w)).objs.size=s.heap.objs.size+1:=Heap.size_push ..
   have nI:l≠(s.heap.push (set0 w)).objs.size:=by rw[Heap.size_push];exact Nat.ne_of_lt (Nat.lt_succ_of_lt lt)
   have nS:s.heap.objs.size∉[(s.heap.push (set0 w)).objs.size,l]:=by
    rw[Heap.size_push];simp only[List.mem_cons,List.not_mem_nil,or_false,not_or]
    exact⟨Nat.ne_of_lt (Nat.lt_succ_self _),Nat.ne_of_gt lt⟩
   refine G.loop ((Walks.list (by simp[nh]) _ l nI its).toS) nS hv (its.size - 0) 0 _ (by omega) (Nat.zero_le _) ⟨⟨_,Heap.get?_push_size _ rfl,rfl,rfl⟩,hl1.push _⟩ (G.start (Heap.get?_push_of_some _ at0)) fun t3 hm st=>?_
   obtain⟨h3,g3,d3,tk3,os3⟩:=t3
   obtain rfl:g3=s.gens:=hm.gens
   obtain rfl:d3=s.drawn:=hm.drawn
   obtain rfl:os3=s.os:=hm.os
   show wpAny _ _ _ _ _ _
   refine wpAny_pure (show wpAny _ _ (ret Value.none) _ _ _ from wpAny_pure ⟨rfl,h3,tk3,rfl,st,fun b o e=>?_⟩)
   have lb:b < s.heap.objs.size:=Heap.lt_size e
   exact hm.heap b o (by rw[Heap.size_push];simp only[List.mem_cons,List.not_mem_nil,or_false,not_or];exact⟨Nat.ne_of_lt lb,Nat.ne_of_lt (Nat.lt_succ_of_lt lb)⟩) (Heap.get?_push_of_some _ (Heap.get?_push_of_some _ e))
  ·rcases out2 with e | fl2
   ·exact hr2
   cases fl2 with
   | ret r =>
    obtain⟨rfl,h3,tk3,rfl,st,kp⟩:=hr2
    repeat (any_goals (first | assumption | wp_step))
    exact done _ _ st kp
   | _=>exact hr2.elim
 | _=>exact hr.elim
theorem call_set_tup {Sp:Nat→Heap→Addr→Prop} {Vl:Nat→Value→Prop} {l:Addr} {its:Array Value} {Q:Value→Shared→Prop} (G:SetRun P w its.size Vl Sp) (nh:A.handled=none) (hl:s.heap.IsTuple l its) (hv:∀i v,its[i]?=some v→Vl i v)
  (done:∀(h':Heap) (tk:Nat),Sp its.size h' s.heap.objs.size→(∀b o,s.heap.get? b=some o→h'.get? b=some o)→Q (.ref s.heap.objs.size) { s with heap:=h',toks:=tk }) :
  wpAny (model P w) A (call (.type "set") [.ref l]) Q E s:=by
 obtain⟨_,_,facts_mro⟩:=F.called_set.mro
 have facts_made:=F.called_set.made
 have facts_sub:=F.called_set.sub
 refine wpAny_call (codeAny_of_tree (show wpAny _ _ (callAny (.type "set") _) _ _ _ from ?_))
 refine wpAny_pure ⟨Code.quiet_builtin _ (by decide +kernel),codeAny_builtin F.entry_type_call ?_⟩
 rw[Around.under_plain (weight_type_call_type "set" [.ref l] []) rfl]
 have facts_nt:=F.called_set.notType
 have facts_cc:=F.called_set.canCreate
 have facts_tc:=F.typeCall_set_1 (.ref l)
 repeat (any_goals (first | assumption | wp_step))
 refine codeAny_mono (L2.code_set_led1 (.ref l) (E:=E) (Q₁:=fun ob t1=>ob=.ref s.heap.objs.size∧t1={ s with heap:=s.heap.push (set0 w) }) ⟨rfl,rfl⟩) fun out t1 hr=>?_
 rcases out with e | fl
 ·exact hr
 cases fl with
 | ret ob =>
  obtain⟨rfl,rfl⟩:=hr
  have at0:(s.heap.push (set0 w)).get? s.heap.objs.size=some (set0 w):=Heap.get?_push_size _ rfl
  have ty0:Shared.TypeIs { s with heap:=s.heap.push (set0 w) } (.ref s.heap.objs.size) "set" := ⟨_,at0,rfl⟩
  have facts_il:=F.called_set.init.lookup
  have facts_ib:=F.called_set.init.bind (.ref s.heap.objs.size)
  repeat (any_goals (first | assumption | wp_step))
  refine codeAny_mono (codeAny_call_builtin (R:=wants (fun r t2=>r=.none∧∃h' tk,t2={ s with heap:=h',toks:=tk }∧Sp its.size h' s.heap.objs.size∧(∀b o,s.heap.get? b=some o→h'.get? b=some o)) E)
   F.called_set.init.plain F.entry_set_init (check_set_init_1 ty0 ?_)) fun out2 t2 hr2=>?_
  ·obtain⟨ol,hol,hcl,nl,hdl⟩:=hl
   obtain⟨oc,od,odt,osl⟩:=ol
   simp only at hcl hdl
   subst hcl hdl
   have hol':(s.heap.push (set0 w)).get? l=some { cls:=.type "tuple", dict:=od,data:=.seq its nl,slots:=osl }:=Heap.get?_push_of_some _ hol
   have facts_s1:=F.sub_tuple_set
   have facts_s2:=F.sub_tuple_frozenset
   have facts_ne:(Value.type "tuple" == Value.type "dict")=false:=by decide
   have hl1:(s.heap.push (set0 w)).IsTuple l its:=⟨_,hol',rfl,nl,rfl⟩
   unfold Builtin.«set.__init__» noKeywords Builtin.Frozenset.updateFrom
   generalize hIT:pyIter=IT
   wp_walk
   subst hIT
   refine wpAny_pyIter_tuple hl1 (wpAny_bind (wpAny_runValue ?_))
   have lt:l < s.heap.objs.size:=Heap.lt_size hol
   have sz:(s.heap.push (set0 w)).objs.size=s.heap.objs.size+1:=Heap.size_push ..
   have nI:l≠(s.heap.push (set0 w)).objs.size:=by rw[Heap.size_push];exact Nat.ne_of_lt (Nat.lt_succ_of_lt lt)
   have nS:s.heap.objs.size∉[(s.heap.push (set0 w)).objs.size,l]:=by
    rw[Heap.size_push];simp only[List.mem_cons,List.not_mem_nil,or_false,not_or]
    exact⟨Nat.ne_of_lt (Nat.lt_succ_self _),Nat.ne_of_gt lt⟩
   refine G.loop ((Walks.tuple (by simp[nh]) _ l nI its).toS) nS hv (its.size - 0) 0 _ (by omega) (Nat.zero_le _) ⟨⟨_,Heap.get?_push_size _ rfl,rfl,rfl⟩,hl1.push _⟩ (G.start (Heap.get?_push_of_some _ at0)) fun t3 hm st=>?_
   obtain⟨h3,g3,d3,tk3,os3⟩:=t3
   obtain rfl:g3=s.gens:=hm.gens
   obtain rfl:d3=s.drawn:=hm.drawn
   obtain rfl:os3=s.os:=hm.os
   show wpAny _ _ _ _ _ _
   refine wpAny_pure (show wpAny _ _ (ret Value.none) _ _ _ from wpAny_pure ⟨rfl,h3,tk3,rfl,st,fun b o e=>?_⟩)
   have lb:b < s.heap.objs.size:=Heap.lt_size e
   exact hm.heap b o (by rw[Heap.size_push];simp only[List.mem_cons,List.not_mem_nil,or_false,not_or];exact⟨Nat.ne_of_lt lb,Nat.ne_of_lt (Nat.lt_succ_of_lt lb)⟩) (Heap.get?_push_of_some _ (Heap.get?_push_of_some _ e))
  ·rcases out2 with e | fl2
   ·exact hr2
   cases fl2 with
   | ret r =>
    obtain⟨rfl,h3,tk3,rfl,st,kp⟩:=hr2
    repeat (any_goals (first | assumption | wp_step))
    exact done _ _ st kp
   | _=>exact hr2.elim
 | _=>exact hr.elim
end
end VS
namespace VS
open PySem L2 SeqAt PySem.Spec PyProof.Rows
instance lawKey:LawfulBEq (Sum Int Str) where
 eq_of_beq {a b} h:=by
  cases a<;>cases b<;>first | exact congrArg Sum.inl (eq_of_beq (α:=Int) h) | exact congrArg Sum.inr (eq_of_beq (α:=Str) h) | exact nomatch (show false=true from h)
 rfl {a}:=by
  cases a with
  | inl i=>exact(beq_self_eq_true i:(i == i)=true)
  | inr x=>exact(beq_self_eq_true x:(x == x)=true)
def ddup {α:Type} [DecidableEq α]:List α→List α
 | []=>[]
 | k::ks=>if k∈ks then ddup ks else k::ddup ks
theorem QY {α:Type} [DecidableEq α]:∀(ks:List α) (x:α),x∈ddup ks↔x∈ks
 | [],x=>by simp[ddup]
 | k::ks,x=>by
  unfold ddup
  split
  ·rename_i h
   rw[QY ks x,List.mem_cons]
   exact⟨.inr,fun z=>z.elim (fun z=>by rw[z];exact h) id⟩
  ·rw[List.mem_cons,List.mem_cons,QY ks x]
theorem QG {α:Type} [DecidableEq α]:∀(ks:List α),(ddup ks).Nodup
 | []=>by simp[ddup]
 | k::ks=>by
  unfold ddup
  split
  ·exact QG ks
  ·rename_i h
   exact List.nodup_cons.mpr ⟨fun z=>h ((QY ks k).mp z),QG ks⟩
theorem Jb8 {α:Type} [DecidableEq α]:∀(ks:List α),(ddup ks).length≤ks.length
 | []=>by simp[ddup]
 | k::ks=>by
  unfold ddup
  have:=Jb8 ks
  split<;>simp only[List.length_cons]<;>omega
theorem JgR {α:Type} [DecidableEq α]:∀{ks:List α},ks.Nodup→ddup ks=ks
 | [],_=>rfl
 | k::ks,h=>by
  obtain⟨h1,h2⟩:=List.nodup_cons.mp h
  unfold ddup
  rw[if_neg h1,JgR h2]
theorem Jde {α:Type} [DecidableEq α] (ks:List α):(ddup ks).length=ks.length↔ks.Nodup:=by
 constructor
 ·induction ks with
  | nil=>simp
  | cons k ks ih =>
   intro h
   unfold ddup at h
   split at h
   ·have:=Jb8 ks
    simp only[List.length_cons]at h;omega
   ·rename_i hk
    simp only[List.length_cons,Nat.add_right_cancel_iff]at h
    exact List.nodup_cons.mpr ⟨hk,ih h⟩
 ·intro h;rw[JgR h]
theorem Ja2 {α:Type} [DecidableEq α]:∀{xs ys:List α},xs.Nodup→ys.Nodup→(∀x,x∈xs↔x∈ys)→xs.length=ys.length:=by
 intro xs ys hx hy h
 have p:=(List.perm_ext_iff_of_nodup hx hy).mpr h
 exact p.length_eq
theorem ddup_snoc {α:Type} [DecidableEq α] (ks:List α) (k:α):(ddup (ks++[k])).length=if k∈ks then (ddup ks).length else (ddup ks).length+1:=by
 split
 ·rename_i h
  refine Ja2 (QG _) (QG _) fun x=>?_
  rw[QY,QY,List.mem_append,List.mem_singleton]
  exact⟨fun z=>z.elim id fun z=>by rw[z];exact h,.inl⟩
 ·rename_i h
  have n:(k::ddup ks).Nodup:=List.nodup_cons.mpr ⟨fun z=>h ((QY _ _).mp z),QG _⟩
  have:=Ja2 (QG (ks++[k])) n fun x=>by
   rw[QY,List.mem_append,List.mem_singleton,List.mem_cons,QY]
   exact Or.comm
  rw[this];simp
section
variable {P:Program} {w:World} {A:Around} {E:Value→Shared→Prop} {s:Shared}
theorem Jfr (ks:List Key) (hb:ks.length+1 < scanBound):SetRun P w ks.length (fun i v=>∃k,ks[i]?=some k∧RelV (kV k) v) (fun i h a=>h.SetOf (mixKind P w) a (fun k=>decide (k∈ks.take i)) (ddup (ks.take i)).length) where
 start:=fun {h a} e=>⟨_,#[],0,_,e,⟨rfl,rfl,rfl⟩,rfl,(fun e he=>by simp at he),(fun k=>by simp),(by decide),(by rfl),rfl⟩
 keep:=fun sp k=>by obtain⟨o,es,ep,t,e,r⟩:=sp;exact⟨o,es,ep,t,k o e,r⟩
 add:=fun {i a v A E s Q} hi sp hv q=>by
  obtain⟨k,hk,rv⟩:=hv
  unfold setAdd
  refine wpAny_holding (wpAny_bind ((mixKind P w).pyHash (k:=k) (kV_is rv) ?_))
  have hl:=Jb8 (ks.take i)
  rw[List.length_take]at hl
  refine wpAny_setAddHashed_of (knd:=mixKind P w) (s:={ s with toks:=s.toks+1 }) (kV_is rv) (key_scan rv) sp (by omega) fun h' sb st=>?_
  refine q _ h' _ sb (Nat.le_succ _) (SetOf_congr st (fun j=>?_) ?_)
  ·rw[List.take_add_one,hk]
   simp[List.mem_append]
  ·rw[List.take_add_one,hk]
   show (if decide (k∈ks.take i)=true then _ else _)=_
   rw[Option.toList_some,ddup_snoc]
   simp
end
def JaN:List D→Option (List Key)
 | []=>some []
 | d::ds=>match d.key,JaN ds with
  | some k,some ks=>some (k::ks)
  | _,_=>none
def Zm:D→Option (List D)
 | .lst _ ds=>some ds
 | .tup ds=>some ds
 | _=>none
def Zw (c:CE):CE:=fun env=>(c env).bind fun d env=>match Zm d with
 | some ds=>(match JaN ds with
  | some ks=>if ks.length≤4000 then .ok (.int (ddup ks).length) env else .err
  | none=>.err)
 | none=>.err
section
variable {X:Cx} {W:WX} {M Rs:List Nat} {e:Expr} {c:CE} {p p2 q2 pos:Pos} {C:Ctx} {H:Hp}
theorem JbP:∀{ds:List D} {ks:List Key} {vs:List V} {fp:List Addr},JaN ds=some ks→Reps C H ds vs fp→vs=ks.map kV
 | [],ks,vs,fp,h,⟨e,_⟩=>by cases h;exact e
 | d::ds,ks,vs,fp,h,⟨v,vs',f1,f2,e,r,rs,_⟩=>by
  unfold JaN at h
  split at h
  ·rename_i k ks' hk hks
   cases h
   subst e
   rw[JbP hks rs]
   congr 1
   cases d with
   | int i=>cases hk;exact r.1
   | str z=>cases hk;exact r.1
   | _=>cases hk
  ·cases h
def tSetOf (K:PySem.W.Frag) (ta:TE) (R:List V→Hp→VK→Prop):TE:=fun σ H Q=>ta σ H fun x H1=>∃l xs,x=.ref l∧(SqL K H1 l xs∨SqT K H1 l xs)∧R xs H1 Q
theorem vals_get {xs:List V} {us:List Value} (r:Vals xs us):∀{i:Nat} {u:Value},us[i]?=some u→∃x,xs[i]?=some x∧RelV x u:=by
 induction r with
 | nil=>intro i u h;simp at h
 | cons r1 r2 ih =>
  intro i u h
  cases i with
  | zero=>simp at h;subst h;exact⟨_,rfl,r1⟩
  | succ i=>simp only[List.getElem?_cons_succ]at h ⊢;exact ih h
theorem pe_lenSet2 {ta:TE} (hc:X.calm=true) (hg:Gl X "len") (hm:X.mg "len" = none) (hg2:Gl X "set") (hm2:X.mg "set" = none) (ha:PE X e ta) (na:starEach [e] X.env=(false,eval e X.env)::starEach [] X.env) :
  PE X (.Call (.Name "len" p) [.Call (.Name "set" p2) [e] [] q2] [] pos) (tSetOf X.K ta fun xs H Q=>∃ks:List Key,xs=ks.map kV∧ks.length≤4000∧Q (.int (ddup ks).length) H):=by
 refine⟨fun pins s σ H Q I h=>Call_ (ld_blt I hg hm boot_len (PyProof.Rows.callWith_builtin1 (PyProof.Rows.args_cons ?_ rfl) rfl rfl))⟩
 refine Call_ (ld_blt I hg2 hm2 boot_set (PyProof.Rows.callWith_type1 (PyProof.Rows.args_cons (thn (ha.run pins s σ H _ I h) fun v s1 ⟨x,H1,I1,r1,l,xs,ex,hq,ks,ek,hk,q1⟩=>PyProof.Rows.args_nil ?_) na) na rfl))
 subst ex ek
 cases r1
 have fin:∀(its:List Value),Vals (ks.map kV) its→∀(h':Heap) (tk:Nat),h'.SetOf (mixKind X.prog X.w) s1.heap.objs.size (fun k=>decide (k∈ks.take ks.length)) (ddup (ks.take ks.length)).length →
   (∀b o,s1.heap.get? b=some o→h'.get? b=some o) →
   wpAny (model X.prog X.w) X.A (spliced (backTo pos (starEach [] X.env))) (fun vs t=>wpAny (model X.prog X.w) X.A (call (.builtin "len") (Value.ref s1.heap.objs.size::vs)) (EP X pins σ Q) X.xe t) X.xe { s1 with heap:=h',toks:=tk }:=fun its r h' tk hS hk'=>by
  refine PyProof.Rows.args_nil ?_
  rw[List.take_length]at hS
  obtain⟨o,es,ep,t,ho,hex,hd,_,_,_,hf,hn⟩:=hS
  have I2:Inv X pins σ H1 { s1 with heap:=h',toks:=tk }:=I1.kept fun b o e=>hk' b o e
  have hl:=Jb8 ks
  refine call_len_set ho hex hd hf (by rw[hn];omega) ⟨.int (ddup ks).length,H1,I2.tok _,⟨_,by rw[hn]⟩,q1⟩
 have hv:∀(its:List Value),Vals (ks.map kV) its→its.toArray.size=ks.length∧∀i v,its.toArray[i]?=some v→∃k,ks[i]?=some k∧RelV (kV k) v:=fun its r=>by
  refine⟨by rw[List.size_toArray,←r.length,List.length_map],fun i v hi=>?_⟩
  obtain⟨x,hx,rx⟩:=vals_get r (i:=i) (u:=v) (by rw[←Array.getElem?_toList]at hi;exact hi)
  rw[List.getElem?_map]at hx
  obtain⟨k,hk,rfl⟩:=Option.map_eq_some_iff.mp hx
  exact⟨k,hk,rx⟩
 have hb:ks.length+1 < scanBound:=by unfold scanBound;omega
 rcases hq with hq | hq
 ·obtain⟨its,r,pl,hz⟩:=I1.list hq
  obtain⟨e1,e2⟩:=hv its r
  refine call_set_lst (P:=X.prog) (w:=X.w) (Vl:=fun i v=>∃k,ks[i]?=some k∧RelV (kV k) v) (by rw[e1];exact Jfr ks hb) (I1.ok.hd hc) pl.isList e2 fun h' tk hS hk'=>?_
  rw[e1]at hS
  exact fin its r h' tk hS hk'
 ·obtain⟨its,r,pl,hz⟩:=I1.tuple hq
  obtain⟨e1,e2⟩:=hv its r
  refine call_set_tup (P:=X.prog) (w:=X.w) (Vl:=fun i v=>∃k,ks[i]?=some k∧RelV (kV k) v) (by rw[e1];exact Jfr ks hb) (I1.ok.hd hc) pl e2 fun h' tk hS hk'=>?_
  rw[e1]at hS
  exact fin its r h' tk hS hk'
theorem JaY (hc:X.calm=true) (hg:Gl X "len") (hm:X.mg "len" = none) (hg2:Gl X "set") (hm2:X.mg "set" = none) (h:SB X W M Rs e c) (na:starEach [e] X.env=(false,eval e X.env)::starEach [] X.env) :
  SO X W M (.Call (.Name "len" p) [.Call (.Name "set" p2) [e] [] q2] [] pos) (Zw c):=by
 obtain⟨t,pe,q⟩:=h.go
 refine⟨_,pe_lenSet2 hc hg hm hg2 hm2 pe na,fun C fs env σ H tf Q hC G po=>?_⟩
 show t σ H fun x H1=>_
 refine q C fs env σ H tf _ hC G ?_
 unfold Zw at po
 cases e1:c env with
 | err=>rw[e1]at po;exact po
 | ex x env'=>rw[e1]at po;exact po
 | ok d env1 =>
  rw[e1]at po
  intro v fs1 H1 fp own G1 s1 r i1
  simp only[R.bind]at po
  cases hs:Zm d with
  | none=>rw[hs]at po;exact po.elim
  | some ds =>
  rw[hs]at po
  simp only at po
  cases hk:JaN ds with
  | none=>rw[hk]at po;exact po.elim
  | some ks =>
  rw[hk]at po
  simp only at po
  by_cases hl:ks.length≤4000
  case neg=>rw[if_neg hl]at po;exact po.elim
  rw[if_pos hl]at po
  have k:=Zb (own:=own) G1 s1 po
  cases d with
  | lst g ds' =>
   cases hs
   obtain⟨a,vs,f,rfl,q,rz⟩:=JF hC G1.fr r
   exact⟨a,vs,rfl,.inl q,ks,JbP hk rz,hl,k.here ⟨rfl,rfl⟩⟩
  | tup ds' =>
   cases hs
   obtain⟨a,vs,rfl,q,rz⟩:=Yg hC r
   exact⟨a,vs,rfl,.inr q,ks,JbP hk rz,hl,k.here ⟨rfl,rfl⟩⟩
  | _=>cases hs
@[simp] theorem e_lenSet {env:Env}:Zw c env=(c env).bind fun d env=>match Zm d with
 | some ds=>(match JaN ds with
  | some ks=>if ks.length≤4000 then .ok (.int (ddup ks).length) env else .err
  | none=>.err)
 | none=>.err:=(rfl)
end
end VS
namespace VS
open PySem L2 SeqAt PySem.Spec PyProof.Rows
def Jfy:List D→Option D
 | [.non]=>some (.str "None")
 | [.bl b]=>some (.str (if b then "True" else "False"))
 | ds=>pStr ds
section
variable {X:Cx}
theorem JgM {k:Nat} (hr:Room k X.A) (hg:X.A.guards=some []):ODL X (.type "str") Jfy:=by
 intro pins s σ H xs us Q I rv ⟨C,ds,fx,d,hC,hF,rs,e,kk⟩
 have gen:=od_str hr hg pins s σ H xs us Q I rv
 unfold Jfy at e
 split at e
 ·cases e
  obtain⟨v,rfl,r⟩:=Zn rs
  obtain⟨rfl,_⟩:=r
  obtain⟨u,rfl,ru⟩:=vals1 rv
  cases (show u=Value.none from ru)
  exact PySem.P.str_of_none ⟨.str "None", H,I.tok _,⟨_,rfl⟩,kk.here ⟨rfl,rfl⟩⟩
 ·rename_i b
  cases e
  obtain⟨v,rfl,r⟩:=Zn rs
  obtain⟨rfl,_⟩:=r
  obtain⟨u,rfl,ru⟩:=vals1 rv
  cases (show u=Value.bool b from ru)
  exact PySem.P.str_of_bool ⟨.str _,H,I.tok _,⟨_,rfl⟩,kk.here ⟨rfl,rfl⟩⟩
 ·exact gen ⟨C,_,fx,d,hC,hF,rs,e,kk⟩
end
end VS
namespace VS
open PySem L2 SeqAt PySem.Spec PyProof.Rows
def cM0S (pr:Str→Option D) (ca:CE):CE:=fun env=>(ca env).bind fun d env=>match d with
 | .str x=>R.of (pr x) env
 | _=>.err
def Jcr (a:Str):Option D:=if a.length≤5592405 then some (.str (Txt.upper a)) else none
section
variable {X:Cx} {W:WX} {M M1 M2 M3 V1 V2 V3 Rs R1 R2 R3:List Nat} {e a b c tg o:Expr} {es:List Expr} {ca cb cc:CE} {cs:CA} {pos p apos tpos:Pos} {cl:CL} {i:Nat} {io:List Bool} {env:Env}
theorem so_m0S {name:Str} {r:V→List V→Hp→VK→Prop} {pr:Str→Option D} (pe:∀{to:TE},PE X o to→PE X (.Call (.Attribute o name apos) [] [] pos) (L2.tM0 r to))
  (hr:∀(C:Ctx) (H:Hp) (x:Str) (d:D) (Q:VK),C.At X→Fr C H→pr x=some d→(∀v,Rep C H d v []→Q v H)→r (.str x) [] H Q) (ha:SB X W M1 R1 o ca) :
  SO X W M1 (.Call (.Attribute o name apos) [] [] pos) (cM0S pr ca):=by
 obtain⟨t,p,q⟩:=ha.go
 refine⟨_,pe p,fun C fs env σ H tf Q hC G po=>?_⟩
 show t σ H fun x H1=>(∃a,x=.str a)∧r x [] H1 Q
 refine q C fs env σ H tf _ hC G ?_
 unfold cM0S at po
 cases e1:ca env with
 | err=>rw[e1]at po;exact po
 | ex x env'=>rw[e1]at po;exact po
 | ok d env1 =>
  rw[e1]at po
  intro v fs1 H1 fp own G1 s1 r1 i1
  simp only[R.bind]at po
  cases d with
  | str x =>
   obtain⟨rfl,_⟩:=r1
   simp only[R.of]at po
   cases e3:pr x with
   | none=>rw[e3]at po;exact po.elim
   | some z =>
    rw[e3]at po
    have k:=Zb (own:=own) G1 s1 po
    exact⟨⟨x,rfl⟩,hr C H1 x z Q hC G1.fr e3 fun v r=>k.here r⟩
  | _=>exact po.elim
theorem so_upper (ha:SB X W M1 R1 o ca) (hbase:attributeBase o "upper" X.env (eval o X.env)=eval o X.env) (hline:(apos.endLine == pos.line)=true) :
  SO X W M1 (.Call (.Attribute o "upper" apos) [] [] pos) (cM0S Jcr ca) :=
 so_m0S (fun p=>L2.pe_upper p hbase hline) (fun C H x d Q hC hF e k=>by
  unfold Jcr at e
  split at e
  ·rename_i hz
   cases e
   exact⟨x,rfl,rfl,hz,k _ ⟨rfl,rfl⟩⟩
  ·cases e) ha
@[simp] theorem e_m0S (pr:Str→Option D):cM0S pr ca env=(ca env).bind fun d env=>match d with
 | .str x=>R.of (pr x) env
 | _=>.err:=(rfl)
end
end VS
set_option maxHeartbeats 6400000
namespace VS
open PySem L2 SeqAt
mutual
def D.thaw:D→D
 | .tup ds=>.tup (thaws ds)
 | .ftu ds=>.tup (thaws ds)
 | .lst g ds=>.lst g (thaws ds)
 | d=>d
def thaws:List D→List D
 | []=>[]
 | d::ds=>d.thaw::thaws ds
end
section
variable {C:Ctx} {H:Hp}
mutual
theorem Rep.thaw:∀{d:D} {v:V} {fp:List Addr},Rep C H d v fp→Rep C H d.thaw v fp
 | .tup ds,v,fp,⟨a,vs,e,t,r⟩=>⟨a,vs,e,t,Reps.thaw r⟩
 | .ftu ds,v,fp,⟨a,vs,e,t,r⟩=>⟨a,vs,e,t.sqt,Reps.thaw r⟩
 | .lst g ds,v,fp,⟨a,vs,f1,f2,e,n,r,z,e2⟩=>⟨a,vs,f1,f2,e,n,Reps.thaw r,z,e2⟩
 | .non,v,fp,h=>h
 | .bl b,v,fp,h=>h
 | .int i,v,fp,h=>h
 | .str s,v,fp,h=>h
 | .ty s,v,fp,h=>h
 | .dct g ks ds,v,fp,h=>h
 | .obj g c ns ds,v,fp,h=>h
 | .exc c ns ds,v,fp,h=>h
theorem Reps.thaw:∀{ds:List D} {vs:List V} {fp:List Addr},Reps C H ds vs fp→Reps C H (thaws ds) vs fp
 | [],vs,fp,h=>h
 | d::ds,vs,fp,⟨v,vs',f1,f2,e,r,rs,e2⟩=>⟨v,vs',f1,f2,e,Rep.thaw r,Reps.thaw rs,e2⟩
end
end
def JG (c:CE):CE:=fun env=>(c env).bind fun d env=>.ok d.thaw env
@[simp] theorem e_thaw {c:CE} {env:Env}:JG c env=(c env).bind fun d env=>.ok d.thaw env:=(rfl)
section
variable {X:Cx} {W:WX} {M Rs:List Nat} {e:Expr} {es:List Expr} {c:CE} {cs:CA} {p pos:Pos}
theorem JX (h:SB X W M Rs e c):SB X W M Rs e (JG c):=by
 obtain⟨t,pe,q⟩:=h.go
 refine⟨t,pe,fun C fs env σ H tf Q hC G po=>q C fs env σ H tf Q hC G ?_⟩
 unfold JG at po
 cases e1:c env with
 | err=>rw[e1]at po;exact po
 | ex x env'=>rw[e1]at po;exact po
 | ok d env1 =>
  rw[e1]at po
  exact fun v fs1 H1 fp own G1 s1 r i1=>po v fs1 H1 fp own G1 s1 (Rep.thaw r) i1
theorem JgV (h:SO X W M e c):SO X W M e (JG c):=by
 obtain⟨t,pe,q⟩:=h.go
 refine⟨t,pe,fun C fs env σ H tf Q hC G po=>q C fs env σ H tf Q hC G ?_⟩
 unfold JG at po
 cases e1:c env with
 | err=>rw[e1]at po;exact po
 | ex x env'=>rw[e1]at po;exact po
 | ok d env1 =>
  rw[e1]at po
  exact fun v fs1 H1 fp G1 s1 r=>po v fs1 H1 fp G1 s1 (Rep.thaw r)
def Jin (t:TA):TE:=fun σ H Q=>t σ H fun xs H1=>xs.length≤sizeLine∧∀p (o:Obj),H1 p=none→o.dict=none→Q (.ref p) (upd H1 p (.frz o (.tup xs)))
theorem pe_tupF {t:TA} {x1} (h:PA X es t):PE X (.Tuple es x1 pos) (Jin t):=by
 refine⟨fun pins s σ H Q I hq=>?_⟩
 refine wpAny_Tuple_spliced (thn (h.run pos pins s σ H _ I hq) fun us s1 ⟨xs,H1,I1,r,z,q⟩=>⟨by rw[←r.length];exact z,?_⟩)
 have hf:H1 s1.heap.objs.size=none:=I1.hok.fresh (Nat.le_refl _)
 refine⟨.ref s1.heap.objs.size,upd H1 s1.heap.objs.size (.frz { cls:=.type "tuple", data:=.seq us.toArray } (.tup xs)),I1.laid (t':=s1.toks) (fun b u e=>Heap.get?_push_of_some _ e) (Nat.le_refl _) ?_,rfl,q _ _ hf rfl⟩
 exact⟨Heap.get?_push_size _ rfl,z,us,r,⟨_,Heap.get?_push_size _ rfl,rfl,_,rfl⟩⟩
def Jdy (cs:CA):CE:=fun env=>(cs env).bind fun ds env=>if ds.length≤sizeLine then .ok (.ftu ds) env else .err
@[simp] theorem e_tupF {env:Env}:Jdy cs env=(cs env).bind fun ds env=>if ds.length≤sizeLine then .ok (.ftu ds) env else .err:=(rfl)
theorem Je9 {kk} (h:SAO X W M es cs):SO X W M (.Tuple es kk pos) (Jdy cs):=by
 obtain⟨t,p,q⟩:=h.go
 refine⟨Jin t,pe_tupF p,fun C fs env σ H tf Q hC G po=>q C fs env σ H tf _ hC G ?_⟩
 unfold Jdy at po
 cases e1:cs env with
 | err=>rw[e1]at po;exact po
 | ex x env'=>rw[e1]at po;exact po
 | ok ds env' =>
  rw[e1]at po
  intro vs fs' H' fp G' s r
  have po':Ut W C M tf fs env σ H Q (if ds.length≤sizeLine then .ok (.ftu ds) env' else .err):=po
  by_cases hz:ds.length≤sizeLine
  ·rw[if_pos hz]at po'
   refine⟨by rw[←Jz r];exact hz,fun q o hq ho=>?_⟩
   have le:=Le.new (o:=.frz o (.tup vs)) hq
   refine po' (.ref q) fs' _ fp (G'.le' le) ?_ ⟨q,vs,rfl,⟨o,upd_same,ho⟩,r.le le⟩
   have:=s.trans (Step.grow (M:=[]) G'.drop le)
   simpa using this
  ·rw[if_neg hz]at po';exact po'.elim
theorem call_tupleF:CallR X (.type "tuple") (fun xs H Q=>∃p ys,xs=[.ref p]∧SqL X.K H p ys∧∀l (o:Obj),H l=none→o.dict=none→Q (.ref l) (upd H l (.frz o (.tup ys)))):=by
 intro pins s σ H xs us Q I r h
 obtain⟨p,ys,rfl,hq,q⟩:=h
 obtain⟨u,rfl,rx⟩:=vals1 r
 cases rx
 obtain⟨its,r',pl,hz⟩:=I.list hq
 have hlen:=r'.length
 refine call_tuple_list pl.isList (fun h' kp=>?_) (by simp only[List.size_toArray]<;>omega)
 have I1:Inv X pins σ H { s with heap:=h' }:=I.kept (t':=s.toks) kp
 refine⟨.ref h'.objs.size,upd H h'.objs.size (.frz { cls:=.type "tuple", data:=.seq its.toArray } (.tup ys)),I1.laid (t':=s.toks) (fun b o e=>Heap.get?_push_of_some _ e) (Nat.le_refl _) ?_,rfl,q _ _ (I1.hok.fresh (Nat.le_refl _)) rfl⟩
 exact⟨Heap.get?_push_size _ rfl,hz,its,r',PyProof.Rows.IsTup.new _ _⟩
def Jai:List D→Option D
 | [.lst _ ds]=>if imms ds then some (.ftu ds) else none
 | _=>none
theorem JcG:ODL X (.type "tuple") Jai:=by
 refine ODL.of call_tupleF fun xs H Q ⟨C,ds,fx,d,hC,hF,rs,e,k⟩=>?_
 unfold Jai at e
 split at e
 ·rename_i g zs
  split at e<;>cases e
  rename_i hi
  obtain⟨v,rfl,r⟩:=Zn rs
  obtain⟨a,vs,f,rfl,q,rz⟩:=JF hC hF r
  have ez:=rz.imm hi
  subst ez
  refine⟨a,vs,rfl,q,fun l o hl ho=>?_⟩
  have le:=Le.new (o:=.frz o (.tup vs)) hl
  exact k (.ref l) _ [] le ⟨l,vs,rfl,⟨o,upd_same,ho⟩,rz.le le⟩ (by simp) fun a ha=>nomatch ha
 ·cases e
theorem call_dictF (hcalm:X.calm=true):CallR X (.type "dict") (fun xs H Q=>∃(a:Addr) (o:Obj) (ps:List Addr) (kvs:List (Key × V)),xs=[.ref a]∧H a=some (.frz o (.tup (ps.map V.ref)))∧o.dict=none∧Paired (fun p kv=>SqT X.K H p [kV kv.1,kv.2]) ps kvs ∧
  ∀p,H p=none→Q (.ref p) (upd H p (.dK (mergeK [] kvs)))):=by
 intro pins s σ H xs us Q I r ⟨a,o,ps,kvs,ex,hq,hdn,hp,q⟩
 subst ex
 obtain⟨u,eu,rx⟩:=vals1 r
 subst eu
 cases rx
 obtain⟨ho,hz,its,rv,o',ho',hc,n,hdat⟩:=I.hok a _ hq
 obtain rfl:o=o':=Option.some.inj (ho.symm.trans ho')
 have ei:=refs_at rv
 subst ei
 rw[List.length_map]at hz
 obtain⟨prs,rel,hl,hpr⟩:=pairs_of I hp
 have ex:∀(j:Nat),∃(u:Value),∀q,prs[j]?=some q→PyProof.Rows.IsTup s.heap (ps.getD j 0) #[u,q.2]∧keyIs q.1 u=true:=fun j=>by
  cases e:prs[j]? with
  | none=>exact⟨.none,fun q h=>nomatch h⟩
  | some q =>
   obtain⟨b,u,e1,e2,e3⟩:=hpr j q e
   refine⟨u,fun q' h=>?_⟩
   cases h
   rw[List.getD_eq_getElem?_getD,e1]
   exact⟨e2,e3⟩
 obtain⟨ku,hku⟩:=Classical.skolem.mp ex
 let pv:List (Value × Value):=prs.zipIdx.map fun q=>(ku q.2,q.1.2)
 have epv:∀j:Nat,pv[j]?=prs[j]?.map fun q=>(ku j,q.2):=fun j=>by
  show (prs.zipIdx.map fun q=>(ku q.2,q.1.2))[j]?=_
  rw[List.getElem?_map,List.getElem?_zipIdx]
  cases prs[j]?<;>simp
 have lpv:pv.length=prs.length:=by show (prs.zipIdx.map fun q=>(ku q.2,q.1.2)).length=_;simp
 have hcalm':=I.ok.hd hcalm
 refine PySem.call_dict_pairs (knd:=mixKind X.prog X.w) (kvs:=prs) (PySem.PairArg.tuple a (ps.map Value.ref).toArray (fun j=>ps.getD j 0) pv) hcalm' ⟨⟨o,n,ho,hc,hdn,hdat⟩,?_,?_⟩ ⟨lpv.symm,?_⟩ (by rw[lpv,hl];exact hz) fun h' tk hd' k=>?_
 ·simp[lpv,hl]
 ·intro j k v e
  rw[epv]at e
  obtain⟨q',e1,e2⟩:=Option.map_eq_some_iff.mp e
  cases e2
  obtain⟨b,u,e3,e4,e5⟩:=hpr j q' e1
  refine⟨?_,.inl ?_⟩
  ·simp[e3]
  ·exact(hku j q' e1).1
 ·intro i key v e
  rw[show PySem.PairRel pv i key v=(pv[i]?=some (key,v)) from rfl,epv]at e
  obtain⟨q',e1,e2⟩:=Option.map_eq_some_iff.mp e
  cases e2
  exact⟨q'.1,e1,(hku i q' e1).2⟩
 ·have hm:(s.heap.objs.size == sysModules)=false:=beq_eq_false_iff_ne.mpr (Nat.ne_of_gt I.big)
  have hlen:(mergeK [] kvs).length≤sizeLine:=by
   refine Nat.le_trans (length_mergeK kvs []) ?_
   rw[List.length_nil,Nat.zero_add,rel.length,hl]
   exact hz
  exact⟨.ref s.heap.objs.size,upd H s.heap.objs.size (.dK (mergeK [] kvs)),I.laid (t':=tk) (fun b o e=>k b o (fun z=>nomatch z) e) (Nat.le_refl _) (show ObjOk X.prog X.w _ _ _ (.dK (mergeK [] kvs)) from ⟨hlen,hm,merged [] prs,KV.merge rel .nil,hd'⟩),rfl,q _ (I.hok.fresh (Nat.le_refl _))⟩
def JdI:List D→Option D
 | [.ftu ds]=>if imms ds then (Jau ds).map fun ps=>.dct .m (mkD ps).1 (mkD ps).2 else none
 | ds=>Jaw ds
theorem Jfz (hcalm:X.calm=true):ODL X (.type "dict") JdI:=by
 intro pins s σ H xs us Q I rv ⟨C,ds0,fx,d,hC,hF,rs,e,kk⟩
 unfold JdI at e
 split at e
 ·rename_i zs
  split at e
  case isFalse=>cases e
  rename_i hi
  obtain⟨ps,h1,rfl⟩:=Option.map_eq_some_iff.mp e
  obtain⟨v,rfl,r⟩:=Zn rs
  obtain⟨a,vs,rfl,⟨o,hq,ho⟩,rz⟩:=r
  have ez:=rz.imm hi
  subst ez
  obtain⟨as,kvs,rfl,q2,q3,q4⟩:=JcE hC h1 hi rz
  obtain⟨m1,m2,m3⟩:=JcF (acc:=[]) (kd:=([],[])) q3 q4 rfl .nil ⟨rfl,rfl⟩
  refine call_dictF hcalm pins s σ H _ us Q I rv ⟨a,o,as,kvs,rfl,hq,ho,q2,fun p hp=>?_⟩
  have le:=Le.new (o:=.dK (mergeK [] kvs)) hp
  exact kk (.ref p) _ [p] le ⟨p,_,[p],[],rfl,⟨upd_same,rfl⟩,⟨m1,m2⟩,m3.le le,.inl rfl,rfl⟩ (by simp) fun a ha=>by simp at ha;subst ha;exact hp
 ·exact Jd3 hcalm pins s σ H xs us Q I rv ⟨C,ds0,fx,d,hC,hF,rs,e,kk⟩
end
end VS
set_option maxHeartbeats 6400000
namespace VS
open PySem L2 SeqAt
def Jeg:List D→Option D
 | [.lst g ds]=>Jaw [.lst g (thaws ds)]
 | [.ftu ds]=>JdI [.ftu (thaws ds)]
 | ds=>JdI ds
section
variable {X:Cx}
theorem od_dictH (hcalm:X.calm=true):ODL X (.type "dict") Jeg:=by
 intro pins s σ H xs us Q I rv ⟨C,ds0,fx,d,hC,hF,rs,e,kk⟩
 unfold Jeg at e
 split at e
 ·rename_i g zs
  obtain⟨v,vs',f1,f2,e1,r,rs',e2⟩:=rs
  exact Jd3 hcalm pins s σ H xs us Q I rv ⟨C,[.lst g (thaws zs)],fx,d,hC,hF,⟨v,vs',f1,f2,e1,Rep.thaw r,rs',e2⟩,e,kk⟩
 ·rename_i zs
  obtain⟨v,vs',f1,f2,e1,⟨a,ws,h1,h2,h3⟩,rs',e2⟩:=rs
  exact Jfz hcalm pins s σ H xs us Q I rv ⟨C,[.ftu (thaws zs)],fx,d,hC,hF,⟨v,vs',f1,f2,e1,⟨a,ws,h1,h2,Reps.thaw h3⟩,rs',e2⟩,e,kk⟩
 ·exact Jfz hcalm pins s σ H xs us Q I rv ⟨C,ds0,fx,d,hC,hF,rs,e,kk⟩
end
end VS
namespace VS
open PySem L2 SeqAt PySem.Spec PyProof.Rows
def keepZ (p:Addr × Obj):Bool:=(match p.2.cls with
 | .none=>false
 | _=>true) || (Nat.beq p.1 2 || Nat.beq p.1 3)
def KofG (g:Addr→Option Obj) (as:List Addr):PySem.W.Frag:=(He.frG g as).filter keepZ
theorem KofG_in {as:List Addr} {h:Heap}:(KofG h.get? as).In h:=fun _ _ e=>He.frG_mem (List.mem_filter.mp (He.lookup_mem e)).1
def JiF {α:Type} (as:List Addr) (ob:PySem.W.Frag→α) (val:World→α):PySem.W.Hook where
 α:=α
 obs:=fun s=>ob (KofG s.heap.get? as)
 val:=val
 says:=fun w h=>∃K:PySem.W.Frag,K.In h∧ob K=val w
 of:=fun _ _ e=>⟨_,KofG_in,e⟩
 keeps:=fun _ _ _ ⟨K,hK,c⟩ k=>⟨K,PySem.W.Frag.In.keeps hK k,c⟩
def obT {α:Type} (as:List Addr) (ob:PySem.W.Frag→α) (s:PySem.W.SharedT):α:=ob (KofG (HandSHeadRun.getT s) as)
theorem obT_eq {α:Type} {as:List Addr} {ob:PySem.W.Frag→α} {val:World→α} (s:PySem.W.SharedT):obT as ob s=(JiF as ob val).obs s.abs:=by
 have e:HandSHeadRun.getT s=s.abs.heap.get?:=funext (HandSHeadRun.getT_eq s)
 unfold obT
 rw[e]
 rfl
theorem JZ {l:List Bool} (h:l.all id=true) (i:Nat) {b:Bool} (e:l[i]?=some b):b=true:=List.all_eq_true.mp h b (List.mem_of_getElem? e)
theorem Ju {l:List Bool} {p:Prop} [Decidable p] (h:l.all id=true) (i:Nat) (e:l[i]?=some (decide p)):p:=of_decide_eq_true (JZ h i e)
theorem walkGE {l:PySem.W.OpenLaw} {k:Nat} {q:Program} {loose:List Str} {XP:(Str→Option Value)→Heap→Prop} {YP:World→Heap→Prop} {d:DefRec} {x:Str}
  (hn:l.most=some 63) (hdf:d.params.defaults=[]) (hr:Room k callerA)
  (F:∀(w:World) (mg:Str→Option Value) (fa:Addr) (h:Heap),YP w h→h.Ns mainGlobals mg→mg d.name=some (.ref fa) →
   ∃K:PySem.W.Frag,K.In h∧∃fd:FuncData,(∀(s:Shared) (u:Value),BindsTo s fd ⟨[u],[]⟩ [(x,u)])∧∀base:Heap,K.In base→base.Ns mainGlobals mg→FnG l.prog w K mg base k fa fd [x] (Jf2 K)) :
  PySem.W.WalkO q loose XP YP l.row.toRowW d [] (fun f vs=>PySem.call f vs):=by
 refine Att.attach_callB hn hdf fun w t0 t mg mb fa o pm cd doc a vs ns G Y ho hd hcd hmg hobj hints hlen hbits hgen=>?_
 obtain⟨K,KX,fd,hb,hF⟩:=F w mg fa _ Y G.T.g hmg
 exact call_g KX G.T.g G.T.b G.T.builtins G.T.nolimit hgen hobj hints hr hF hb hlen hbits
end VS
namespace VS
open PySem L2 SeqAt PySem.Spec PyProof.Rows
def top (i:Nat):Stmt:=PySem.Challenge.pw_joinback_k70_whole_papers_spoilt_anywher.main.body.getD i (.Pass ⟨0,0,0,0⟩)
section
variable {P:Program} {w:World} {K:PySem.W.Frag} {mg:Str→Option Value} {base:Heap}
abbrev UN:Stmt:=top 20
theorem sc__law_tape:FnScope ["_law_script", "_law_k", "_law_cell", "_law_digits"] ["_law_script", "_law_k"] (defScope UN):=⟨rfl,rfl,rfl,by decide +kernel,rfl,by decide +kernel,by decide +kernel⟩
def JcZ:CS:=(sSeq (sAsg (cK (.int 0)) (gSet 2)) (sSeq (sIf (cTt (c2 pLtG (cVar 1) (cL pLen (Jb (cVar 0) cNil)))) (sAsg (cImm (cIdx (cVar 0) (cVar 1))) (gSet 2)) sNil) (sSeq (sAsg (c2 QM (cL pAbs (Jb (cVar 2) cNil)) (cL JbF (Jb (c2 pGeG (cL pAbs (Jb (cVar 2) cNil)) (c2 pPow (cK (.int 10)) (cK (.int 18)))) cNil))) (gSet 3)) (sRet (cLst (Jb (cGet 3) (Jb (c2 pMod (c2 QM (c2 pAdd (c2 pAdd (c2 pMod (cVar 2) (cK (.int 2147483647))) (c2 QM (cK (.int 7919)) (cVar 1))) (cK (.int 11))) (cK (.int 48271))) (cK (.int 2147483629))) cNil)))))))
def Qr:List D→FR:=JO 4 [false,false] JcZ
theorem ok__law_tape {f:Addr} {fd:FuncData} (F:Fun K "_law_tape" "_law_tape" UN f fd) (z_len:mg "len" = none) (z_abs:mg "abs" = none) (z_int:mg "int" = none):FnOk P w K mg base (L2.CX P w) 1 f fd ["_law_script", "_law_k"] (spF K mg [false,false] Qr):=by
 refine' fn_ok (M:=_) (Vs:=_) F sc__law_tape rfl ?hv fun cdv A outer s H E hr=>?hb
 case hb =>
  have hr:Room 0 (cxOf (L2.CX P w) P w K mg base ["_law_script", "_law_k", "_law_cell", "_law_digits"] "_law_tape" (defScope UN) f cdv A outer s H E).A:=hr
  have hN:(cxOf (L2.CX P w) P w K mg base ["_law_script", "_law_k", "_law_cell", "_law_digits"] "_law_tape" (defScope UN) f cdv A outer s H E).N.Nodup:=sc__law_tape.nd
  have tk:Takes (cxOf (L2.CX P w) P w K mg base ["_law_script", "_law_k", "_law_cell", "_law_digits"] "_law_tape" (defScope UN) f cdv A outer s H E) (fun cls d _ H=>E cls d H):=takes_of rfl rfl rfl rfl
  have hp:=passes_of (X:=cxOf (L2.CX P w) P w K mg base ["_law_script", "_law_k", "_law_cell", "_law_digits"] "_law_tape" (defScope UN) f cdv A outer s H E) rfl
  refine'(Jh (JC hN Jd) (Jh (Yd (Jv (JcJ hr) (Ja 1) (SO.sb (Jp Yn (by rfl) z_len (by rfl) (Jg (Ja 0) Jt)))) (Jm (JC hN (SB.imm (Jx hr (Ja 0) (Ja 1))))) JM) (Jh (JC hN (JA Qq (SO.sb (Jp Jhm (by rfl) z_abs (by rfl) (Jg (Ja 2) Jt))) (SO.sb (YH Je3 (by rfl) z_int (by rfl) (Jg (SO.sb (YG (od_geG hr) (SO.sb (Jp Jhm (by rfl) z_abs (by rfl) (Jg (Ja 2) Jt))) (SO.sb (JA Jee (SO.sb Jd) (SO.sb Jd))))) Jt))))) (Jm (Jy (Yk (Jc (JQ 3) (Jc (JA JaZ (SO.sb (JA Qq (SO.sb (JA Yv (SO.sb (JA Yv (SO.sb (JA JaZ (Ja 2) (SO.sb Jd))) (SO.sb (JA Qq (SO.sb Jd) (Ja 1))))) (SO.sb Jd))) (SO.sb Jd))) (SO.sb Jd)) Jj))))))))
 case hv=>decide
abbrev UO:Stmt:=top 21
theorem sc__law_draw:FnScope ["_law_tape_here", "_law_many", "_law_found", "_law_once"] ["_law_tape_here", "_law_many"] (defScope UO):=⟨rfl,rfl,rfl,by decide +kernel,rfl,by decide +kernel,by decide +kernel⟩
def Jda:CS:=(sSeq (sIf (cTt (c2 pGtG (cIdx (cVar 0) (cK (.int 0))) (cK (.int 0)))) (sSeq (sAsg (c2 pMod (cIdx (cVar 0) (cK (.int 0))) (cVar 1)) (gSet 2)) (sSeq (sAsg (c2 pDiv (cIdx (cVar 0) (cK (.int 0))) (cVar 1)) (JaC 0 (lVar 0) (cK (.int 0)))) (sRet (cGet 2)))) sNil) (sSeq (sAsg (c2 pMod (c2 pAdd (c2 QM (cIdx (cVar 0) (cK (.int 1))) (cK (.int 48271))) (cK (.int 39373))) (cK (.int 2147483647))) (JaC 0 (lVar 0) (cK (.int 1)))) (sSeq (sAsg (c2 pMod (c2 QM (cIdx (cVar 0) (cK (.int 1))) (c2 pAdd (c2 pMod (cIdx (cVar 0) (cK (.int 1))) (cK (.int 40009))) (cK (.int 7)))) (cK (.int 2147483587))) (gSet 3)) (sRet (c2 pMod (c2 pDiv (cVar 3) (cK (.int 64))) (cVar 1))))))
def Jf:List D→FR:=JO 4 [true,false] Jda
theorem ok__law_draw {f:Addr} {fd:FuncData} (F:Fun K "_law_draw" "_law_draw" UO f fd)  : FnOk P w K mg base (L2.CX P w) 1 f fd ["_law_tape_here", "_law_many"] (spF K mg [true,false] Jf):=by
 refine' fn_ok (M:=_) (Vs:=_) F sc__law_draw rfl ?hv fun cdv A outer s H E hr=>?hb
 case hb =>
  have hr:Room 0 (cxOf (L2.CX P w) P w K mg base ["_law_tape_here", "_law_many", "_law_found", "_law_once"] "_law_draw" (defScope UO) f cdv A outer s H E).A:=hr
  have hN:(cxOf (L2.CX P w) P w K mg base ["_law_tape_here", "_law_many", "_law_found", "_law_once"] "_law_draw" (defScope UO) f cdv A outer s H E).N.Nodup:=sc__law_draw.nd
  have tk:Takes (cxOf (L2.CX P w) P w K mg base ["_law_tape_here", "_law_many", "_law_found", "_law_once"] "_law_draw" (defScope UO) f cdv A outer s H E) (fun cls d _ H=>E cls d H):=takes_of rfl rfl rfl rfl
  have hp:=passes_of (X:=cxOf (L2.CX P w) P w K mg base ["_law_tape_here", "_law_many", "_law_found", "_law_once"] "_law_draw" (defScope UO) f cdv A outer s H E) rfl
  refine'(Jh (Yd (Jv (Jgd hr) (Jx hr (Ja 0) (SO.sb Jd)) (SO.sb Jd)) (Jh (JC hN (JA JaZ (Jx hr (Ja 0) (SO.sb Jd)) (Ja 1))) (Jh (UW (JA Jgh (Jx hr (Ja 0) (SO.sb Jd)) (Ja 1)) (Ja9 hr (W1:=fun cls d _ H=>E cls d H) (W2:=fun cls d _ H=>E cls d H) (Za 0) (SO.sb Jd))) (Jm (Jy (JQ 2))))) JM) (Jh (UW (JA JaZ (SO.sb (JA Yv (SO.sb (JA Qq (Jx hr (Ja 0) (SO.sb Jd)) (SO.sb Jd))) (SO.sb Jd))) (SO.sb Jd)) (Ja9 hr (W1:=fun cls d _ H=>E cls d H) (W2:=fun cls d _ H=>E cls d H) (Za 0) (SO.sb Jd))) (Jh (JC hN (JA JaZ (SO.sb (JA Qq (Jx hr (Ja 0) (SO.sb Jd)) (SO.sb (JA Yv (SO.sb (JA JaZ (Jx hr (Ja 0) (SO.sb Jd)) (SO.sb Jd))) (SO.sb Jd))))) (SO.sb Jd))) (Jm (Jy (JA JaZ (SO.sb (JA Jgh (Ja 3) (SO.sb Jd))) (Ja 1)))))))
 case hv=>decide
abbrev Ui:Stmt:=top 22
theorem sc__law_names:FnScope ["_law_tape_here", "_law_some", "_law_first", "_law_many", "_law_k"] ["_law_tape_here"] (defScope Ui):=⟨rfl,rfl,rfl,by decide +kernel,rfl,by decide +kernel,by decide +kernel⟩
def Jb5:CS:=(sSeq (sAsg (Jfh (cK (.str "b aa zebra c quartzes ab m knows d mm likes z a ba abcdefgh y")) (cK (.str " "))) (gSet 1)) (sSeq (sAsg (Jo Jf (aOw (cMv 0) (some 0) (aRo (cK (.int 16)) aNil))) (gSet 2)) (sSeq (sAsg (cImm (cIdx (cLst (Jb (Jo Jf (aOw (cMv 0) (some 0) (aRo (cK (.int 3)) aNil))) (Jb (c2 pAdd (cK (.int 10)) (Jo Jf (aOw (cMv 0) (some 0) (aRo (cK (.int 5)) aNil)))) (Jb (c2 pAdd (cK (.int 4)) (Jo Jf (aOw (cMv 0) (some 0) (aRo (cK (.int 5)) aNil)))) cNil)))) (cL JfK (Jb (cK (.int 2)) (Jb (Jo Jf (aOw (cMv 0) (some 0) (aRo (cK (.int 8)) aNil))) cNil))))) (gSet 3)) (sRet (cLc (ZH (Jb (cVar 3) cNil)) [4] (gSet 4) cYes (cImm (cIdx (cVar 1) (c2 pMod (c2 pAdd (cVar 2) (c2 QM (cK (.int 5)) (cVar 4))) (cK (.int 16))))))))))
def ZR:List D→FR:=JO 5 [true] Jb5
theorem ok__law_names {f:Addr} {fd:FuncData} (F:Fun K "_law_names" "_law_names" Ui f fd) (z_min:mg "min" = none) (z_range:mg "range" = none) (d__law_draw:Fd P w K mg base 1 "_law_draw" ["_law_tape_here", "_law_many"] [true,false] Jf):FnOk P w K mg base (L2.CX P w) 2 f fd ["_law_tape_here"] (spF K mg [true] ZR):=by
 refine' fn_ok (M:=_) (Vs:=_) F sc__law_names rfl ?hv fun cdv A outer s H E hr=>?hb
 case hb =>
  have hr:Room 1 (cxOf (L2.CX P w) P w K mg base ["_law_tape_here", "_law_some", "_law_first", "_law_many", "_law_k"] "_law_names" (defScope Ui) f cdv A outer s H E).A:=hr
  have hN:(cxOf (L2.CX P w) P w K mg base ["_law_tape_here", "_law_some", "_law_first", "_law_many", "_law_k"] "_law_names" (defScope Ui) f cdv A outer s H E).N.Nodup:=sc__law_names.nd
  have tk:Takes (cxOf (L2.CX P w) P w K mg base ["_law_tape_here", "_law_some", "_law_first", "_law_many", "_law_k"] "_law_names" (defScope Ui) f cdv A outer s H E) (fun cls d _ H=>E cls d H):=takes_of rfl rfl rfl rfl
  have hp:=passes_of (X:=cxOf (L2.CX P w) P w K mg base ["_law_tape_here", "_law_some", "_law_first", "_law_many", "_law_k"] "_law_names" (defScope Ui) f cdv A outer s H E) rfl
  have D__law_draw:=(d__law_draw).mono (k:=1) (by omega)
  refine'(Jh (JC hN (so_split (SO.sb Qj) (SO.sb Qj) (by rfl) (by rfl) (by rfl))) (Jh (JC hN (Jr D__law_draw hr tk (JD (Ji (SO.sb Jd) Jq)))) (Jh (JC hN (SB.imm (Jx hr (SO.sb (Yk (Jc (Jr D__law_draw hr tk (JD (Ji (SO.sb Jd) Jq))) (Jc (JA Yv (SO.sb Jd) (SO.sb (Jr D__law_draw hr tk (JD (Ji (SO.sb Jd) Jq))))) (Jc (JA Yv (SO.sb Jd) (SO.sb (Jr D__law_draw hr tk (JD (Ji (SO.sb Jd) Jq))))) Jj))))) (SO.sb (Jp (Jgv hr rfl) (by rfl) z_min (by rfl) (Jg (SO.sb Jd) (Jg (SO.sb (Jr D__law_draw hr tk (JD (Ji (SO.sb Jd) Jq)))) Jt))))))) (Jm (Jy (Qx (own:=[("_law_k", 4)]) [4] rfl hN (Jae (by rfl) z_range (Jg (Ja 3) Jt)) (blkOk_by (N:=["_law_tape_here", "_law_some", "_law_first", "_law_many", "_law_k"]) (sc:=defScope Ui) (own:=[("_law_k", 4)]) (by decide +kernel)) (fun _ _ _ _ _=>(Jl 4 hN)) (fun _ _ _ _ _=>Uy) (fun _ _ _ _ _=>(SB.imm (Jx hr (Ja 1) (SO.sb (JA JaZ (SO.sb (JA Yv (Ja 2) (SO.sb (JA Qq (SO.sb Jd) (Ja 4))))) (SO.sb Jd)))))) rfl (by decide) (by decide) (by intro _;rfl)))))))
 case hv=>decide
abbrev UJ:Stmt:=top 23
theorem sc__law_turn:FnScope ["_law_tape_here"] ["_law_tape_here"] (defScope UJ):=⟨rfl,rfl,rfl,by decide +kernel,rfl,by decide +kernel,by decide +kernel⟩
def Jc6:CS:=(sRet (cImm (cIdx (cLst (Jb (cK (.int 0)) (Jb (cK (.int 0)) (Jb (cK (.int 0)) (Jb (cK (.int 2)) (Jb (cK (.int 3)) (Jb (cK (.int 7)) (Jb (cK (.int 1000)) (Jb (cK (.int 1)) cNil))))))))) (Jo Jf (aOw (cMv 0) (some 0) (aRo (cK (.int 8)) aNil))))))
def Qo:List D→FR:=JO 1 [true] Jc6
theorem ok__law_turn {f:Addr} {fd:FuncData} (F:Fun K "_law_turn" "_law_turn" UJ f fd) (d__law_draw:Fd P w K mg base 1 "_law_draw" ["_law_tape_here", "_law_many"] [true,false] Jf):FnOk P w K mg base (L2.CX P w) 2 f fd ["_law_tape_here"] (spF K mg [true] Qo):=by
 refine' fn_ok (M:=_) (Vs:=_) F sc__law_turn rfl ?hv fun cdv A outer s H E hr=>?hb
 case hb =>
  have hr:Room 1 (cxOf (L2.CX P w) P w K mg base ["_law_tape_here"] "_law_turn" (defScope UJ) f cdv A outer s H E).A:=hr
  have hN:(cxOf (L2.CX P w) P w K mg base ["_law_tape_here"] "_law_turn" (defScope UJ) f cdv A outer s H E).N.Nodup:=sc__law_turn.nd
  have tk:Takes (cxOf (L2.CX P w) P w K mg base ["_law_tape_here"] "_law_turn" (defScope UJ) f cdv A outer s H E) (fun cls d _ H=>E cls d H):=takes_of rfl rfl rfl rfl
  have hp:=passes_of (X:=cxOf (L2.CX P w) P w K mg base ["_law_tape_here"] "_law_turn" (defScope UJ) f cdv A outer s H E) rfl
  have D__law_draw:=(d__law_draw).mono (k:=1) (by omega)
  refine'(Jm (Jy (SB.imm (Jx hr (SO.sb (Yk (Jc Jd (Jc Jd (Jc Jd (Jc Jd (Jc Jd (Jc Jd (Jc Jd (Jc Jd Jj)))))))))) (SO.sb (Jr D__law_draw hr tk (JD (Ji (SO.sb Jd) Jq))))))))
 case hv=>decide
abbrev Yp:Stmt:=top 24
theorem sc__law_joinings:FnScope ["_law_tape_here", "_law_names_here", "_law_turn_here", "_law_found", "_law_wide", "_law_kept", "_law_name", "_law_slips", "_law_turn_by", "_law_way", "_law_step_here", "_law_one", "_law_other"] ["_law_tape_here", "_law_names_here", "_law_turn_here"] (defScope Yp):=⟨rfl,rfl,rfl,by decide +kernel,rfl,by decide +kernel,by decide +kernel⟩
def Qc:CS:=(sSeq (sPar 11 12 (Jb (cImm (cIdx (cVar 1) (Jo Jf (aOw (cMv 0) (some 0) (aRo (cL pLen (Jb (cVar 1) cNil)) aNil))))) (Jb (cImm (cIdx (cVar 1) (Jo Jf (aOw (cMv 0) (some 0) (aRo (cL pLen (Jb (cVar 1) cNil)) aNil))))) cNil))) (sSeq (sAsg (Jo Jf (aOw (cMv 0) (some 0) (aRo (cK (.int 9)) aNil))) (gSet 9)) (sSeq (sIf (cTt (c2 pEq (cVar 9) (cK (.int 0)))) (sAsg (cGet 11) (gSet 12)) sNil) (sSeq (sIf (Qk (cTt (c2 pEq (cVar 9) (cK (.int 1)))) (cTt (c2 pNe (cVar 3) (cLst cNil)))) (sAsg (cSl (cIdx (cVar 3) (Jo Jf (aOw (cMv 0) (some 0) (aRo (cL pLen (Jb (cVar 3) cNil)) aNil)))) pNo (pAt (cK (.int 2)))) (JI 2 (Je (gSet 11) (Je (gSet 12) JL)))) sNil) (sSeq (sIf (Qk (cTt (c2 pEq (cVar 9) (cK (.int 2)))) (cTt (c2 pNe (cVar 3) (cLst cNil)))) (sAsg (cSl (cIdx (cVar 3) (Jo Jf (aOw (cMv 0) (some 0) (aRo (cL pLen (Jb (cVar 3) cNil)) aNil)))) pNo (pAt (cK (.int 2)))) (JI 2 (Je (gSet 12) (Je (gSet 11) JL)))) sNil) (sSeq (sAsg (c2 pAdd (c2 pSub (cIdx (cVar 5) (cVar 12)) (cIdx (cVar 5) (cVar 11))) (c2 QM (cVar 2) (c2 pSub (Jo Jf (aOw (cMv 0) (some 0) (aRo (cK (.int 5)) aNil))) (cK (.int 2))))) (gSet 10)) (sSeq (sIf (Qk (cTt (c2 pGtG (cVar 7) (cK (.int 0)))) (cTt (c2 pEq (Jo Jf (aOw (cMv 0) (some 0) (aRo (cVar 7) aNil))) (cK (.int 0))))) (sAsg (c2 pAdd (cVar 10) (cIdx (cLst (Jb (cK (.int 1)) (Jb (c1 pNeg (cK (.int 1))) (Jb (cK (.int 2)) (Jb (c2 pPow (cK (.int 10)) (cK (.int 11))) cNil))))) (Jo Jf (aOw (cMv 0) (some 0) (aRo (cK (.int 4)) aNil))))) (gSet 10)) sNil) (ZE (cMut 3 kdL Uc (lVar 3) (Jb (cTup (Jb (cGet 11) (Jb (cGet 12) (Jb (cGet 10) cNil)))) cNil))))))))))
def Jbh:CS:=(sSeq (sAsg (cLst cNil) (gSet 3)) (sSeq (sAsg (cImm (cIdx (cLst (Jb (cK (.int 3)) (Jb (cK (.int 3)) (Jb (cK (.int 12)) (Jb (cK (.int 12)) (Jb (cK (.int 12)) (Jb (c2 QM (cK (.int 4)) (c2 pPow (cK (.int 10)) (cK (.int 11)))) cNil))))))) (Jo Jf (aOw (cMv 0) (some 0) (aRo (cK (.int 6)) aNil))))) (gSet 4)) (sSeq (sAsg (cL Jaw (Jb (cLc (JB (cVar 1)) [6] (gSet 6) cYes (cTup (Jb (cGet 6) (Jb (c2 pSub (Jo Jf (aOw (cMv 0) (some 0) (aRo (c2 QM (cK (.int 2)) (cVar 4)) aNil))) (cVar 4)) cNil)))) cNil)) (gSet 5)) (sSeq (sAsg (cImm (cIdx (cLst (Jb (cK (.int 0)) (Jb (cK (.int 0)) (Jb (cK (.int 3)) (Jb (cK (.int 12)) cNil))))) (Jo Jf (aOw (cMv 0) (some 0) (aRo (cK (.int 4)) aNil))))) (gSet 7)) (sSeq (sFor (ZH (Jb (Jo Jf (aOw (cMv 0) (some 0) (aRo (c2 pAdd (c2 QM (cK (.int 2)) (cL pLen (Jb (cVar 1) cNil))) (cK (.int 1))) aNil))) cNil)) (gSet 8) Qc) (sRet (cGet 3)))))))
def Un:List D→FR:=JO 13 [true,false,false] Jbh
theorem ok__law_joinings {f:Addr} {fd:FuncData} (F:Fun K "_law_joinings" "_law_joinings" Yp f fd) (z_dict:mg "dict" = none) (z_len:mg "len" = none) (z_range:mg "range" = none) (d__law_draw:Fd P w K mg base 1 "_law_draw" ["_law_tape_here", "_law_many"] [true,false] Jf):FnOk P w K mg base (L2.CX P w) 2 f fd ["_law_tape_here", "_law_names_here", "_law_turn_here"] (spF K mg [true,false,false] Un):=by
 refine' fn_ok (M:=_) (Vs:=_) F sc__law_joinings rfl ?hv fun cdv A outer s H E hr=>?hb
 case hb =>
  have hr:Room 1 (cxOf (L2.CX P w) P w K mg base ["_law_tape_here", "_law_names_here", "_law_turn_here", "_law_found", "_law_wide", "_law_kept", "_law_name", "_law_slips", "_law_turn_by", "_law_way", "_law_step_here", "_law_one", "_law_other"] "_law_joinings" (defScope Yp) f cdv A outer s H E).A:=hr
  have hN:(cxOf (L2.CX P w) P w K mg base ["_law_tape_here", "_law_names_here", "_law_turn_here", "_law_found", "_law_wide", "_law_kept", "_law_name", "_law_slips", "_law_turn_by", "_law_way", "_law_step_here", "_law_one", "_law_other"] "_law_joinings" (defScope Yp) f cdv A outer s H E).N.Nodup:=sc__law_joinings.nd
  have tk:Takes (cxOf (L2.CX P w) P w K mg base ["_law_tape_here", "_law_names_here", "_law_turn_here", "_law_found", "_law_wide", "_law_kept", "_law_name", "_law_slips", "_law_turn_by", "_law_way", "_law_step_here", "_law_one", "_law_other"] "_law_joinings" (defScope Yp) f cdv A outer s H E) (fun cls d _ H=>E cls d H):=takes_of rfl rfl rfl rfl
  have hp:=passes_of (X:=cxOf (L2.CX P w) P w K mg base ["_law_tape_here", "_law_names_here", "_law_turn_here", "_law_found", "_law_wide", "_law_kept", "_law_name", "_law_slips", "_law_turn_by", "_law_way", "_law_step_here", "_law_one", "_law_other"] "_law_joinings" (defScope Yp) f cdv A outer s H E) rfl
  have D__law_draw:=(d__law_draw).mono (k:=1) (by omega)
  refine'(Jh (JC hN (Yk Jj)) (Jh (JC hN (SB.imm (Jx hr (SO.sb (Yk (Jc Jd (Jc Jd (Jc Jd (Jc Jd (Jc Jd (Jc (JA Qq (SO.sb Jd) (SO.sb (JA Jee (SO.sb Jd) (SO.sb Jd)))) Jj)))))))) (SO.sb (Jr D__law_draw hr tk (JD (Ji (SO.sb Jd) Jq))))))) (Jh (JC hN (YH (Jd3 rfl) (by rfl) z_dict (by rfl) (Jg (SO.sb (Qx (own:=[("_law_name", 6)]) [6] rfl hN (Yu (Ja 1)) (blkOk_by (N:=["_law_tape_here", "_law_names_here", "_law_turn_here", "_law_found", "_law_wide", "_law_kept", "_law_name", "_law_slips", "_law_turn_by", "_law_way", "_law_step_here", "_law_one", "_law_other"]) (sc:=defScope Yp) (own:=[("_law_name", 6)]) (by decide +kernel)) (fun _ _ _ _ _=>(Jl 6 hN)) (fun _ _ _ _ _=>Uy) (fun _ _ _ _ _=>(JH (Jc (JQ 6) (Jc (JA Jax (SO.sb (Jr D__law_draw hr takes0 (JD (Ji (SO.sb (JA Qq (SO.sb Jd) (Ja 4))) Jq)))) (Ja 4)) Jj)))) rfl (by decide) (by decide) (by intro _;rfl))) Jt))) (Jh (JC hN (SB.imm (Jx hr (SO.sb (Yk (Jc Jd (Jc Jd (Jc Jd (Jc Jd Jj)))))) (SO.sb (Jr D__law_draw hr tk (JD (Ji (SO.sb Jd) Jq))))))) (Jh (ZD hp rfl (Jae (by rfl) z_range (Jg (SO.sb (Jr D__law_draw hr tk (JD (Ji (SO.sb (JA Yv (SO.sb (JA Qq (SO.sb Jd) (SO.sb (Jp Yn (by rfl) z_len (by rfl) (Jg (Ja 1) Jt))))) (SO.sb Jd))) Jq)))) Jt)) (Jl 8 hN) (Jh (Jb1 rfl hN (Jc (SB.imm (Jx hr (Ja 1) (SO.sb (Jr D__law_draw hr tk (JD (Ji (SO.sb (Jp Yn (by rfl) z_len (by rfl) (Jg (Ja 1) Jt))) Jq)))))) (Jc (SB.imm (Jx hr (Ja 1) (SO.sb (Jr D__law_draw hr tk (JD (Ji (SO.sb (Jp Yn (by rfl) z_len (by rfl) (Jg (Ja 1) Jt))) Jq)))))) Jj))) (Jh (JC hN (Jr D__law_draw hr tk (JD (Ji (SO.sb Jd) Jq)))) (Jh (Yd (Jv (Uj hr) (Ja 9) (SO.sb Jd)) (Jm (JC hN (JQ 11))) JM) (Jh (Yd (SW.st (QX (Jv (Uj hr) (Ja 9) (SO.sb Jd)) (QB (Jv (ZL hr) (Ja 3) (SO.sb (Yk Jj)))))) (Jm (UW (Ug (Jx hr (Ja 3) (SO.sb (Jr D__law_draw hr tk (JD (Ji (SO.sb (Jp Yn (by rfl) z_len (by rfl) (Jg (Ja 3) Jt))) Jq))))) Jab (QK (SO.sb Jd)) (by decide)) (YX rfl (Js (Jl 11 hN) (Js (Jl 12 hN) Yo))))) JM) (Jh (Yd (SW.st (QX (Jv (Uj hr) (Ja 9) (SO.sb Jd)) (QB (Jv (ZL hr) (Ja 3) (SO.sb (Yk Jj)))))) (Jm (UW (Ug (Jx hr (Ja 3) (SO.sb (Jr D__law_draw hr tk (JD (Ji (SO.sb (Jp Yn (by rfl) z_len (by rfl) (Jg (Ja 3) Jt))) Jq))))) Jab (QK (SO.sb Jd)) (by decide)) (YX rfl (Js (Jl 12 hN) (Js (Jl 11 hN) Yo))))) JM) (Jh (JC hN (JA Yv (SO.sb (JA Jax (Jx hr (Ja 5) (Ja 12)) (Jx hr (Ja 5) (Ja 11)))) (SO.sb (JA Qq (Ja 2) (SO.sb (JA Jax (SO.sb (Jr D__law_draw hr tk (JD (Ji (SO.sb Jd) Jq)))) (SO.sb Jd))))))) (Jh (Yd (SW.st (QX (Jv (Jgd hr) (Ja 7) (SO.sb Jd)) (QB (Jv (Uj hr) (SO.sb (Jr D__law_draw hr tk (JD (Ji (Ja 7) Jq)))) (SO.sb Jd))))) (Jm (JC hN (JA Yv (Ja 10) (Jx hr (SO.sb (Yk (Jc Jd (Jc (Zf (SO.sb Jd)) (Jc Jd (Jc (JA Jee (SO.sb Jd) (SO.sb Jd)) Jj)))))) (SO.sb (Jr D__law_draw hr tk (JD (Ji (SO.sb Jd) Jq)))))))) JM) (Jm (Qa (SO.sb (Qu (Za 3) (Jc (JH (Jc (JQ 11) (Jc (JQ 12) (Jc (JQ 10) Jj)))) Jj) (by decide) (by rfl) (by rfl) (by rfl) (by rfl) (by rfl))))))))))))) (Jm (Jy (JQ 3))))))))
 case hv=>decide
abbrev JT:Stmt:=top 26
theorem sc__law_classes:FnScope ["_law_names_here", "_law_joinings_here", "_law_groups", "_law_name", "_law_one", "_law_other", "_law_step_here", "_law_first", "_law_second", "_law_group"] ["_law_names_here", "_law_joinings_here"] (defScope JT):=⟨rfl,rfl,rfl,by decide +kernel,rfl,by decide +kernel,by decide +kernel⟩
def Jag:CS:=(sSeq (sAsg (cImm (cIdx (cLc (JB (cVar 2)) [9] (gSet 9) (cTt (c2 pInW (cVar 4) (cVar 9))) (cGet 9)) (cK (.int 0)))) (gSet 7)) (sSeq (sAsg (cImm (cIdx (cLc (JB (cVar 2)) [9] (gSet 9) (cTt (c2 pInW (cVar 5) (cVar 9))) (cGet 9)) (cK (.int 0)))) (gSet 8)) (sIf (cTt (c2 pNe (cVar 7) (cVar 8))) (sAsg (cFix (c2 pAdd (cLc (JB (cVar 2)) [9] (gSet 9) (Qk (cTt (c2 pNe (cVar 9) (cVar 7))) (cTt (c2 pNe (cVar 9) (cVar 8)))) (cGet 9)) (cLst (Jb (cFix (c2 pAdd (cVar 7) (cVar 8))) cNil)))) (gSet 2)) sNil)))
def JaB:CS:=(sSeq (sAsg (cLc (JB (cVar 0)) [3] (gSet 3) cYes (cLst (Jb (cGet 3) cNil))) (gSet 2)) (sSeq (JgC 2 (sFor (JB (cVar 1)) (JI 3 (Je (gSet 4) (Je (gSet 5) (Je (gSet 6) JL)))) Jag)) (sRet (Jd2 (cLc (JB (cVar 2)) [9] (gSet 9) cYes (cL YE (Jb (cVar 9) cNil)))))))
def YV:List D→FR:=JO 10 [false,false] JaB
theorem ok__law_classes {f:Addr} {fd:FuncData} (F:Fun K "_law_classes" "_law_classes" JT f fd) (z_sorted:mg "sorted" = none):FnOk P w K mg base (L2.CX P w) 1 f fd ["_law_names_here", "_law_joinings_here"] (spF K mg [false,false] YV):=by
 refine' fn_ok (M:=_) (Vs:=_) F sc__law_classes rfl ?hv fun cdv A outer s H E hr=>?hb
 case hb =>
  have hr:Room 0 (cxOf (L2.CX P w) P w K mg base ["_law_names_here", "_law_joinings_here", "_law_groups", "_law_name", "_law_one", "_law_other", "_law_step_here", "_law_first", "_law_second", "_law_group"] "_law_classes" (defScope JT) f cdv A outer s H E).A:=hr
  have hN:(cxOf (L2.CX P w) P w K mg base ["_law_names_here", "_law_joinings_here", "_law_groups", "_law_name", "_law_one", "_law_other", "_law_step_here", "_law_first", "_law_second", "_law_group"] "_law_classes" (defScope JT) f cdv A outer s H E).N.Nodup:=sc__law_classes.nd
  have tk:Takes (cxOf (L2.CX P w) P w K mg base ["_law_names_here", "_law_joinings_here", "_law_groups", "_law_name", "_law_one", "_law_other", "_law_step_here", "_law_first", "_law_second", "_law_group"] "_law_classes" (defScope JT) f cdv A outer s H E) (fun cls d _ H=>E cls d H):=takes_of rfl rfl rfl rfl
  have hp:=passes_of (X:=cxOf (L2.CX P w) P w K mg base ["_law_names_here", "_law_joinings_here", "_law_groups", "_law_name", "_law_one", "_law_other", "_law_step_here", "_law_first", "_law_second", "_law_group"] "_law_classes" (defScope JT) f cdv A outer s H E) rfl
  refine'(Jh (JdH (own:=[("_law_name", 3)]) [3] rfl hN (Yu (Ja 0)) (blkOk_by (N:=["_law_names_here", "_law_joinings_here", "_law_groups", "_law_name", "_law_one", "_law_other", "_law_step_here", "_law_first", "_law_second", "_law_group"]) (sc:=defScope JT) (own:=[("_law_name", 3)]) (by decide +kernel)) (fun _ _ _ _ _=>(Jl 3 hN)) (fun _ _ _ _ _=>Uy) (fun _ _ _ _ _=>(Yk (Jc (JQ 3) Jj))) rfl (by decide) (by decide) (by intro _;rfl) (by rfl) (by rfl) (by rfl)) (Jh (ss_fixB 2 (ZD hp rfl (Yu (Ja 1)) (YX rfl (Js (Jl 4 hN) (Js (Jl 5 hN) (Js (Jl 6 hN) Yo)))) (Jh (JC hN (SB.imm (Jx hr (SO.sb (Qx (own:=[("_law_group", 9)]) [9] rfl hN (Yu (Ja 2)) (blkOk_by (N:=["_law_names_here", "_law_joinings_here", "_law_groups", "_law_name", "_law_one", "_law_other", "_law_step_here", "_law_first", "_law_second", "_law_group"]) (sc:=defScope JT) (own:=[("_law_group", 9)]) (by decide +kernel)) (fun _ _ _ _ _=>(Jl 9 hN)) (fun _ _ _ _ _=>(Jck (Jv (QH hr) (Ja 4) (Ja 9)))) (fun _ _ _ _ _=>(JQ 9)) rfl (by decide) (by decide) (by intro _;rfl))) (SO.sb Jd)))) (Jh (JC hN (SB.imm (Jx hr (SO.sb (Qx (own:=[("_law_group", 9)]) [9] rfl hN (Yu (Ja 2)) (blkOk_by (N:=["_law_names_here", "_law_joinings_here", "_law_groups", "_law_name", "_law_one", "_law_other", "_law_step_here", "_law_first", "_law_second", "_law_group"]) (sc:=defScope JT) (own:=[("_law_group", 9)]) (by decide +kernel)) (fun _ _ _ _ _=>(Jl 9 hN)) (fun _ _ _ _ _=>(Jck (Jv (QH hr) (Ja 5) (Ja 9)))) (fun _ _ _ _ _=>(JQ 9)) rfl (by decide) (by decide) (by intro _;rfl))) (SO.sb Jd)))) (Jm (Yd (Jv (ZL hr) (Ja 7) (Ja 8)) (Jm (JC hN (QF (JA Yv (SO.sb (Qx (own:=[("_law_group", 9)]) [9] rfl hN (Yu (Ja 2)) (blkOk_by (N:=["_law_names_here", "_law_joinings_here", "_law_groups", "_law_name", "_law_one", "_law_other", "_law_step_here", "_law_first", "_law_second", "_law_group"]) (sc:=defScope JT) (own:=[("_law_group", 9)]) (by decide +kernel)) (fun _ _ _ _ _=>(Jl 9 hN)) (fun _ _ _ _ _=>(Jck (SW.st (QX (Jv (ZL hr) (Ja 9) (Ja 7)) (QB (Jv (ZL hr) (Ja 9) (Ja 8))))))) (fun _ _ _ _ _=>(JQ 9)) rfl (by decide) (by decide) (by intro _;rfl))) (SO.sb (Yk (Jc (QF (JA Yv (Ja 7) (Ja 8))) Jj))))))) JM)))))) (Jm (Jy (so_sortM hr (by rfl) z_sorted (Qx (own:=[("_law_group", 9)]) [9] rfl hN (Yu (Ja 2)) (blkOk_by (N:=["_law_names_here", "_law_joinings_here", "_law_groups", "_law_name", "_law_one", "_law_other", "_law_step_here", "_law_first", "_law_second", "_law_group"]) (sc:=defScope JT) (own:=[("_law_group", 9)]) (by decide +kernel)) (fun _ _ _ _ _=>(Jl 9 hN)) (fun _ _ _ _ _=>Uy) (fun _ _ _ _ _=>(Jp (Jba hr rfl) (by rfl) z_sorted (by rfl) (Jg (Ja 9) Jt))) rfl (by decide) (by decide) (by intro _;rfl)))))))
 case hv=>decide
abbrev YK:Stmt:=top 27
theorem sc__law_numbers:FnScope ["_law_names_here", "_law_joinings_here", "_law_found", "_law_group", "_law_again", "_law_one", "_law_other", "_law_step_here"] ["_law_names_here", "_law_joinings_here"] (defScope YK):=⟨rfl,rfl,rfl,by decide +kernel,rfl,by decide +kernel,by decide +kernel⟩
def Qp:CS:=(sSeq (sIf (Qk (cTt (c2 pInW (cVar 5) (cVar 2))) (cTt (c2 Uu (cVar 6) (cVar 2)))) (sAsg (c2 pAdd (cIdx (cVar 2) (cVar 5)) (cVar 7)) (JaC 2 (lVar 2) (cVar 6))) sNil) (sIf (Qk (cTt (c2 pInW (cVar 6) (cVar 2))) (cTt (c2 Uu (cVar 5) (cVar 2)))) (sAsg (c2 pSub (cIdx (cVar 2) (cVar 6)) (cVar 7)) (JaC 2 (lVar 2) (cVar 5))) sNil))
def Qt:CS:=(sFor (JB (cVar 1)) (JI 3 (Je (gSet 5) (Je (gSet 6) (Je (gSet 7) JL)))) Qp)
def ZC:CS:=(sSeq (sAsg (cK (.int 0)) (JaC 2 (lVar 2) (cIdx (cVar 3) (cK (.int 0))))) (sFor (JB (cVar 3)) (gSet 4) Qt))
def Jbs:CS:=(sSeq (sAsg (cK (.dct .m [] [])) (gSet 2)) (sSeq (sFor (JB (cFix (Jo YV (aRo (cVar 0) (aRo (cVar 1) aNil))))) (gSet 3) ZC) (sRet (cGet 2))))
def Zi:List D→FR:=JO 8 [false,false] Jbs
theorem ok__law_numbers {f:Addr} {fd:FuncData} (F:Fun K "_law_numbers" "_law_numbers" YK f fd) (d__law_classes:Fd P w K mg base 1 "_law_classes" ["_law_names_here", "_law_joinings_here"] [false,false] YV):FnOk P w K mg base (L2.CX P w) 2 f fd ["_law_names_here", "_law_joinings_here"] (spF K mg [false,false] Zi):=by
 refine' fn_ok (M:=_) (Vs:=_) F sc__law_numbers rfl ?hv fun cdv A outer s H E hr=>?hb
 case hb =>
  have hr:Room 1 (cxOf (L2.CX P w) P w K mg base ["_law_names_here", "_law_joinings_here", "_law_found", "_law_group", "_law_again", "_law_one", "_law_other", "_law_step_here"] "_law_numbers" (defScope YK) f cdv A outer s H E).A:=hr
  have hN:(cxOf (L2.CX P w) P w K mg base ["_law_names_here", "_law_joinings_here", "_law_found", "_law_group", "_law_again", "_law_one", "_law_other", "_law_step_here"] "_law_numbers" (defScope YK) f cdv A outer s H E).N.Nodup:=sc__law_numbers.nd
  have tk:Takes (cxOf (L2.CX P w) P w K mg base ["_law_names_here", "_law_joinings_here", "_law_found", "_law_group", "_law_again", "_law_one", "_law_other", "_law_step_here"] "_law_numbers" (defScope YK) f cdv A outer s H E) (fun cls d _ H=>E cls d H):=takes_of rfl rfl rfl rfl
  have hp:=passes_of (X:=cxOf (L2.CX P w) P w K mg base ["_law_names_here", "_law_joinings_here", "_law_found", "_law_group", "_law_again", "_law_one", "_law_other", "_law_step_here"] "_law_numbers" (defScope YK) f cdv A outer s H E) rfl
  have D__law_classes:=(d__law_classes).mono (k:=1) (by omega)
  refine'(Jh (JC hN JfB) (Jh (ZD hp rfl (Yu (SO.sb (QF (Jr D__law_classes hr tk (Ji (Ja 0) (Ji (Ja 1) Jq)))))) (Jl 3 hN) (Jh (UW Jd (Ja9 hr (W1:=fun cls d _ H=>E cls d H) (W2:=fun cls d _ H=>E cls d H) (Za 2) (Jx hr (Ja 3) (SO.sb Jd)))) (Jm (ZD hp rfl (Yu (Ja 3)) (Jl 4 hN) (Jm (ZD hp rfl (Yu (Ja 1)) (YX rfl (Js (Jl 5 hN) (Js (Jl 6 hN) (Js (Jl 7 hN) Yo)))) (Jh (Yd (SW.st (QX (Jv (QH hr) (Ja 5) (Ja 2)) (QB (Jv (QV hr) (Ja 6) (Ja 2))))) (Jm (UW (JA Yv (Jx hr (Ja 2) (Ja 5)) (Ja 7)) (Ja9 hr (W1:=fun cls d _ H=>E cls d H) (W2:=fun cls d _ H=>E cls d H) (Za 2) (Ja 6)))) JM) (Jm (Yd (SW.st (QX (Jv (QH hr) (Ja 6) (Ja 2)) (QB (Jv (QV hr) (Ja 5) (Ja 2))))) (Jm (UW (JA Jax (Jx hr (Ja 2) (Ja 6)) (Ja 7)) (Ja9 hr (W1:=fun cls d _ H=>E cls d H) (W2:=fun cls d _ H=>E cls d H) (Za 2) (Ja 5)))) JM))))))))) (Jm (Jy (JQ 2)))))
 case hv=>decide
abbrev YB:Stmt:=top 39
theorem sc__law_straight:FnScope ["_law_tape_here", "_law_joinings_here", "_law_name", "_law_way", "_law_met_here", "_law_turn_here", "_law_some", "_law_number", "_law_joining", "_law_side", "_law_pick", "_law_begin", "_law_end"] ["_law_tape_here", "_law_joinings_here", "_law_name"] (defScope YB):=⟨rfl,rfl,rfl,by decide +kernel,rfl,by decide +kernel,by decide +kernel⟩
def Qd:CS:=(sSeq (sAsg (c2 QR (cSl (cVar 8) pNo (pAt (cK (.int 2)))) (cVar 9)) (JI 2 (Je (gSet 11) (Je (gSet 12) JL)))) (sIf (Qk (cTt (c2 pEq (cVar 11) (cIdx (cVar 4) (c1 pNeg (cK (.int 1)))))) (cTt (c2 Uu (cVar 12) (cVar 4)))) (ZE (cMut 6 kdL Uc (lVar 6) (Jb (cTup (Jb (cGet 7) (Jb (cGet 9) (Jb (cImm (cVar 12)) cNil)))) cNil))) sNil))
def Qf:CS:=(sFor (JB (cTup (Jb (cK (.int 1)) (Jb (c1 pNeg (cK (.int 1))) cNil)))) (gSet 9) Qd)
def ZZ:CS:=(sSeq (sAsg (cLst cNil) (gSet 6)) (sSeq (sFor (Jbb (cVar 1)) (JI 2 (Je (gSet 7) (Je (gSet 8) JL))) Qf) (sIf (cTt (c2 pNe (cVar 6) (cLst cNil))) (sSeq (sAsg (cImm (cIdx (cVar 6) (Jo Jf (aOw (cMv 0) (some 0) (aRo (cL pLen (Jb (cVar 6) cNil)) aNil))))) (gSet 10)) (sSeq (ZE (cMut 3 kdL Uc (lVar 3) (Jb (cSl (cVar 10) pNo (pAt (cK (.int 2)))) cNil))) (ZE (cMut 4 kdL Uc (lVar 4) (Jb (cImm (cIdx (cVar 10) (cK (.int 2)))) cNil))))) sNil)))
def Jbe:CS:=(sSeq (sPar 3 4 (Jb (cLst cNil) (Jb (cLst (Jb (cImm (cVar 2)) cNil)) cNil))) (sSeq (sFor (ZH (Jb (cK (.int 8)) cNil)) (gSet 5) ZZ) (sRet (cTup (Jb (cL JaL (Jb (cVar 3) cNil)) (Jb (cImm (cIdx (cVar 4) (c1 pNeg (cK (.int 1))))) cNil))))))
def UT:List D→FR:=JO 13 [true,false,false] Jbe
theorem ok__law_straight {f:Addr} {fd:FuncData} (F:Fun K "_law_straight" "_law_straight" YB f fd) (z_range:mg "range" = none) (z_enumerate:mg "enumerate" = none) (z_len:mg "len" = none) (z_tuple:mg "tuple" = none) (d__law_draw:Fd P w K mg base 1 "_law_draw" ["_law_tape_here", "_law_many"] [true,false] Jf):FnOk P w K mg base (L2.CX P w) 2 f fd ["_law_tape_here", "_law_joinings_here", "_law_name"] (spF K mg [true,false,false] UT):=by
 refine' fn_ok (M:=_) (Vs:=_) F sc__law_straight rfl ?hv fun cdv A outer s H E hr=>?hb
 case hb =>
  have hr:Room 1 (cxOf (L2.CX P w) P w K mg base ["_law_tape_here", "_law_joinings_here", "_law_name", "_law_way", "_law_met_here", "_law_turn_here", "_law_some", "_law_number", "_law_joining", "_law_side", "_law_pick", "_law_begin", "_law_end"] "_law_straight" (defScope YB) f cdv A outer s H E).A:=hr
  have hN:(cxOf (L2.CX P w) P w K mg base ["_law_tape_here", "_law_joinings_here", "_law_name", "_law_way", "_law_met_here", "_law_turn_here", "_law_some", "_law_number", "_law_joining", "_law_side", "_law_pick", "_law_begin", "_law_end"] "_law_straight" (defScope YB) f cdv A outer s H E).N.Nodup:=sc__law_straight.nd
  have tk:Takes (cxOf (L2.CX P w) P w K mg base ["_law_tape_here", "_law_joinings_here", "_law_name", "_law_way", "_law_met_here", "_law_turn_here", "_law_some", "_law_number", "_law_joining", "_law_side", "_law_pick", "_law_begin", "_law_end"] "_law_straight" (defScope YB) f cdv A outer s H E) (fun cls d _ H=>E cls d H):=takes_of rfl rfl rfl rfl
  have hp:=passes_of (X:=cxOf (L2.CX P w) P w K mg base ["_law_tape_here", "_law_joinings_here", "_law_name", "_law_way", "_law_met_here", "_law_turn_here", "_law_some", "_law_number", "_law_joining", "_law_side", "_law_pick", "_law_begin", "_law_end"] "_law_straight" (defScope YB) f cdv A outer s H E) rfl
  have D__law_draw:=(d__law_draw).mono (k:=1) (by omega)
  refine'(Jh (Jb1 rfl hN (Jc (Yk Jj) (Jc (Yk (Jc (SB.imm (Ja 2)) Jj)) Jj))) (Jh (ZD hp rfl (Jae (by rfl) z_range (Jg (SO.sb Jd) Jt)) (Jl 5 hN) (Jh (JC hN (Yk Jj)) (Jh (ZD hp rfl (JfI (by rfl) z_enumerate (Ja 1)) (YX rfl (Js (Jl 7 hN) (Js (Jl 8 hN) Yo))) (Jm (ZD hp rfl (Yu (SO.sb (JH (Jc Jd (Jc (Zf (SO.sb Jd)) Jj))))) (Jl 9 hN) (Jh (UW (Jdg (SO.sb (Ug (Ja 8) Jab (QK (SO.sb Jd)) (by decide))) (Ja 9) (by decide)) (YX rfl (Js (Jl 11 hN) (Js (Jl 12 hN) Yo)))) (Jm (Yd (SW.st (QX (Jv (Uj hr) (Ja 11) (Jx hr (Ja 4) (SO.sb (Zf (SO.sb Jd))))) (QB (Jv (QV hr) (Ja 12) (Ja 4))))) (Jm (Qa (SO.sb (Qu (Za 6) (Jc (JH (Jc (JQ 7) (Jc (JQ 9) (Jc (SB.imm (Ja 12)) Jj)))) Jj) (by decide) (by rfl) (by rfl) (by rfl) (by rfl) (by rfl))))) JM)))))) (Jm (Yd (Jv (ZL hr) (Ja 6) (SO.sb (Yk Jj))) (Jh (JC hN (SB.imm (Jx hr (Ja 6) (SO.sb (Jr D__law_draw hr tk (JD (Ji (SO.sb (Jp Yn (by rfl) z_len (by rfl) (Jg (Ja 6) Jt))) Jq))))))) (Jh (Qa (SO.sb (Qu (Za 3) (Jc (Ug (Ja 10) Jab (QK (SO.sb Jd)) (by decide)) Jj) (by decide) (by rfl) (by rfl) (by rfl) (by rfl) (by rfl)))) (Jm (Qa (SO.sb (Qu (Za 4) (Jc (SB.imm (Jx hr (Ja 10) (SO.sb Jd))) Jj) (by decide) (by rfl) (by rfl) (by rfl) (by rfl) (by rfl))))))) JM))))) (Jm (Jy (JH (Jc (YH Jcj (by rfl) z_tuple (by rfl) (Jg (Ja 3) Jt)) (Jc (SB.imm (Jx hr (Ja 4) (SO.sb (Zf (SO.sb Jd))))) Jj)))))))
 case hv=>decide
abbrev YI:Stmt:=top 44
theorem sc__law_twinned:FnScope ["_law_tape_here", "_law_joinings_here", "_law_twin", "_law_one", "_law_other", "_law_step_here"] ["_law_tape_here", "_law_joinings_here"] (defScope YI):=⟨rfl,rfl,rfl,by decide +kernel,rfl,by decide +kernel,by decide +kernel⟩
def Jas:CS:=(sSeq (sIf (cTt (c2 pEq (cVar 1) (cLst cNil))) (sRet (cTup (Jb (cImm (cVar 1)) (Jb (cK (.str "last")) (Jb (Jdy cNil) cNil))))) sNil) (sSeq (sAsg (Jo Jf (aOw (cMv 0) (some 0) (aRo (cL pLen (Jb (cVar 1) cNil)) aNil))) (gSet 2)) (sSeq (sAsg (cImm (cIdx (cVar 1) (cVar 2))) (JI 3 (Je (gSet 3) (Je (gSet 4) (Je (gSet 5) JL))))) (sRet (cTup (Jb (cFix (c2 pAdd (cVar 1) (cLst (Jb (cTup (Jb (cImm (cVar 3)) (Jb (cImm (cVar 4)) (Jb (c2 pAdd (cVar 5) (cK (.int 1))) cNil)))) cNil)))) (Jb (cImm (cVar 3)) (Jb (cTup (Jb (cTup (Jb (cGet 2) (Jb (cK (.int 1)) cNil))) (Jb (cTup (Jb (cL pLen (Jb (cVar 1) cNil)) (Jb (c1 pNeg (cK (.int 1))) cNil))) cNil))) cNil))))))))
def YA:List D→FR:=JO 6 [true,true] Jas
theorem ok__law_twinned {f:Addr} {fd:FuncData} (F:Fun K "_law_twinned" "_law_twinned" YI f fd) (z_len:mg "len" = none) (d__law_draw:Fd P w K mg base 1 "_law_draw" ["_law_tape_here", "_law_many"] [true,false] Jf):FnOk P w K mg base (L2.CX P w) 2 f fd ["_law_tape_here", "_law_joinings_here"] (spF K mg [true,true] YA):=by
 refine' fn_ok (M:=_) (Vs:=_) F sc__law_twinned rfl ?hv fun cdv A outer s H E hr=>?hb
 case hb =>
  have hr:Room 1 (cxOf (L2.CX P w) P w K mg base ["_law_tape_here", "_law_joinings_here", "_law_twin", "_law_one", "_law_other", "_law_step_here"] "_law_twinned" (defScope YI) f cdv A outer s H E).A:=hr
  have hN:(cxOf (L2.CX P w) P w K mg base ["_law_tape_here", "_law_joinings_here", "_law_twin", "_law_one", "_law_other", "_law_step_here"] "_law_twinned" (defScope YI) f cdv A outer s H E).N.Nodup:=sc__law_twinned.nd
  have tk:Takes (cxOf (L2.CX P w) P w K mg base ["_law_tape_here", "_law_joinings_here", "_law_twin", "_law_one", "_law_other", "_law_step_here"] "_law_twinned" (defScope YI) f cdv A outer s H E) (fun cls d _ H=>E cls d H):=takes_of rfl rfl rfl rfl
  have hp:=passes_of (X:=cxOf (L2.CX P w) P w K mg base ["_law_tape_here", "_law_joinings_here", "_law_twin", "_law_one", "_law_other", "_law_step_here"] "_law_twinned" (defScope YI) f cdv A outer s H E) rfl
  have D__law_draw:=(d__law_draw).mono (k:=1) (by omega)
  refine'(Jh (Yd (Jv (Uj hr) (Ja 1) (SO.sb (Yk Jj))) (Jm (Jy (JH (Jc (SB.imm (Ja 1)) (Jc Qj (Jc (Je9 Jj) Jj)))))) JM) (Jh (JC hN (Jr D__law_draw hr tk (JD (Ji (SO.sb (Jp Yn (by rfl) z_len (by rfl) (Jg (Ja 1) Jt))) Jq)))) (Jh (UW (SB.imm (Jx hr (Ja 1) (Ja 2))) (YX rfl (Js (Jl 3 hN) (Js (Jl 4 hN) (Js (Jl 5 hN) Yo))))) (Jm (Jy (JH (Jc (QF (JA Yv (Ja 1) (SO.sb (Yk (Jc (JH (Jc (SB.imm (Ja 3)) (Jc (SB.imm (Ja 4)) (Jc (JA Yv (Ja 5) (SO.sb Jd)) Jj)))) Jj))))) (Jc (SB.imm (Ja 3)) (Jc (JH (Jc (JH (Jc (JQ 2) (Jc Jd Jj))) (Jc (JH (Jc (Jp Yn (by rfl) z_len (by rfl) (Jg (Ja 1) Jt)) (Jc (Zf (SO.sb Jd)) Jj))) Jj))) Jj)))))))))
 case hv=>decide
abbrev YR:Stmt:=top 25
theorem sc__law_counted:FnScope ["_law_turn_here", "_law_n"] ["_law_turn_here", "_law_n"] (defScope YR):=⟨rfl,rfl,rfl,by decide +kernel,rfl,by decide +kernel,by decide +kernel⟩
def Jbn:CS:=(sSeq (sIf (cTt (c2 pEq (cVar 0) (cK (.int 0)))) (sRet (cGet 1)) sNil) (sRet (c2 pSub (cVar 1) (c2 QM (c2 pDiv (cVar 1) (cVar 0)) (cVar 0)))))
def Ya:List D→FR:=JO 2 [false,false] Jbn
theorem ok__law_counted {f:Addr} {fd:FuncData} (F:Fun K "_law_counted" "_law_counted" YR f fd)  : FnOk P w K mg base (L2.CX P w) 1 f fd ["_law_turn_here", "_law_n"] (spF K mg [false,false] Ya):=by
 refine' fn_ok (M:=_) (Vs:=_) F sc__law_counted rfl ?hv fun cdv A outer s H E hr=>?hb
 case hb =>
  have hr:Room 0 (cxOf (L2.CX P w) P w K mg base ["_law_turn_here", "_law_n"] "_law_counted" (defScope YR) f cdv A outer s H E).A:=hr
  have hN:(cxOf (L2.CX P w) P w K mg base ["_law_turn_here", "_law_n"] "_law_counted" (defScope YR) f cdv A outer s H E).N.Nodup:=sc__law_counted.nd
  have tk:Takes (cxOf (L2.CX P w) P w K mg base ["_law_turn_here", "_law_n"] "_law_counted" (defScope YR) f cdv A outer s H E) (fun cls d _ H=>E cls d H):=takes_of rfl rfl rfl rfl
  have hp:=passes_of (X:=cxOf (L2.CX P w) P w K mg base ["_law_turn_here", "_law_n"] "_law_counted" (defScope YR) f cdv A outer s H E) rfl
  refine'(Jh (Yd (Jv (Uj hr) (Ja 0) (SO.sb Jd)) (Jm (Jy (JQ 1))) JM) (Jm (Jy (JA Jax (Ja 1) (SO.sb (JA Qq (SO.sb (JA Jgh (Ja 1) (Ja 0))) (Ja 0)))))))
 case hv=>decide
abbrev Ym:Stmt:=top 43
theorem sc__law_coming_out:FnScope ["_law_joinings_here", "_law_numbers_here", "_law_turn_here", "_law_found", "_law_one", "_law_other", "_law_step_here"] ["_law_joinings_here", "_law_numbers_here", "_law_turn_here"] (defScope Ym):=⟨rfl,rfl,rfl,by decide +kernel,rfl,by decide +kernel,by decide +kernel⟩
def Zv:CS:=(sIf (cTt (c2 pEq (Jo Ya (aRo (cVar 2) (aRo (c2 pSub (c2 pAdd (cIdx (cVar 1) (cVar 4)) (cVar 6)) (cIdx (cVar 1) (cVar 5))) aNil))) (cK (.int 0)))) (ZE (cMut 3 kdL Uc (lVar 3) (Jb (cTup (Jb (cGet 4) (Jb (cGet 5) (Jb (cGet 6) cNil)))) cNil))) sNil)
def JaI:CS:=(sSeq (sAsg (cLst cNil) (gSet 3)) (sSeq (sFor (JB (cVar 0)) (JI 3 (Je (gSet 4) (Je (gSet 5) (Je (gSet 6) JL)))) Zv) (sRet (cGet 3))))
def Up:List D→FR:=JO 7 [false,false,false] JaI
theorem ok__law_coming_out {f:Addr} {fd:FuncData} (F:Fun K "_law_coming_out" "_law_coming_out" Ym f fd) (d__law_counted:Fd P w K mg base 1 "_law_counted" ["_law_turn_here", "_law_n"] [false,false] Ya):FnOk P w K mg base (L2.CX P w) 2 f fd ["_law_joinings_here", "_law_numbers_here", "_law_turn_here"] (spF K mg [false,false,false] Up):=by
 refine' fn_ok (M:=_) (Vs:=_) F sc__law_coming_out rfl ?hv fun cdv A outer s H E hr=>?hb
 case hb =>
  have hr:Room 1 (cxOf (L2.CX P w) P w K mg base ["_law_joinings_here", "_law_numbers_here", "_law_turn_here", "_law_found", "_law_one", "_law_other", "_law_step_here"] "_law_coming_out" (defScope Ym) f cdv A outer s H E).A:=hr
  have hN:(cxOf (L2.CX P w) P w K mg base ["_law_joinings_here", "_law_numbers_here", "_law_turn_here", "_law_found", "_law_one", "_law_other", "_law_step_here"] "_law_coming_out" (defScope Ym) f cdv A outer s H E).N.Nodup:=sc__law_coming_out.nd
  have tk:Takes (cxOf (L2.CX P w) P w K mg base ["_law_joinings_here", "_law_numbers_here", "_law_turn_here", "_law_found", "_law_one", "_law_other", "_law_step_here"] "_law_coming_out" (defScope Ym) f cdv A outer s H E) (fun cls d _ H=>E cls d H):=takes_of rfl rfl rfl rfl
  have hp:=passes_of (X:=cxOf (L2.CX P w) P w K mg base ["_law_joinings_here", "_law_numbers_here", "_law_turn_here", "_law_found", "_law_one", "_law_other", "_law_step_here"] "_law_coming_out" (defScope Ym) f cdv A outer s H E) rfl
  have D__law_counted:=(d__law_counted).mono (k:=1) (by omega)
  refine'(Jh (JC hN (Yk Jj)) (Jh (ZD hp rfl (Yu (Ja 0)) (YX rfl (Js (Jl 4 hN) (Js (Jl 5 hN) (Js (Jl 6 hN) Yo)))) (Jm (Yd (Jv (Uj hr) (SO.sb (Jr D__law_counted hr tk (Ji (Ja 2) (Ji (SO.sb (JA Jax (SO.sb (JA Yv (Jx hr (Ja 1) (Ja 4)) (Ja 6))) (Jx hr (Ja 1) (Ja 5)))) Jq)))) (SO.sb Jd)) (Jm (Qa (SO.sb (Qu (Za 3) (Jc (JH (Jc (JQ 4) (Jc (JQ 5) (Jc (JQ 6) Jj)))) Jj) (by decide) (by rfl) (by rfl) (by rfl) (by rfl) (by rfl))))) JM))) (Jm (Jy (JQ 3)))))
 case hv=>decide
abbrev YU:Stmt:=top 40
theorem sc__law_round:FnScope ["_law_tape_here", "_law_joinings_here", "_law_name", "_law_way", "_law_met_here", "_law_turn_here", "_law_some", "_law_home", "_law_number", "_law_joining", "_law_side", "_law_pick", "_law_one", "_law_begin", "_law_end", "_law_pair"] ["_law_tape_here", "_law_joinings_here", "_law_name"] (defScope YU):=⟨rfl,rfl,rfl,by decide +kernel,rfl,by decide +kernel,by decide +kernel⟩
def QU:CS:=(sSeq (sAsg (c2 QR (cSl (cVar 9) pNo (pAt (cK (.int 2)))) (cVar 10)) (JI 2 (Je (gSet 13) (Je (gSet 14) JL)))) (sIf (Qk (cTt (c2 pEq (cVar 13) (cIdx (cVar 4) (c1 pNeg (cK (.int 1)))))) (Qk (cTt (c2 Uu (cVar 14) (cSl (cVar 4) (pAt (cK (.int 1))) pNo))) (cTt (c2 Uu (cVar 8) (cLc (JB (cVar 3)) [15] (gSet 15) cYes (cImm (cIdx (cVar 15) (cK (.int 0))))))))) (ZE (cMut 6 kdL Uc (lVar 6) (Jb (cTup (Jb (cGet 8) (Jb (cGet 10) (Jb (cImm (cVar 14)) cNil)))) cNil))) sNil))
def QO:CS:=(sFor (JB (cTup (Jb (cK (.int 1)) (Jb (c1 pNeg (cK (.int 1))) cNil)))) (gSet 10) QU)
def QN:CS:=(sSeq (sAsg (cLst cNil) (gSet 6)) (sSeq (sFor (Jbb (cVar 1)) (JI 2 (Je (gSet 8) (Je (gSet 9) JL))) QO) (sSeq (sAsg (cLc (JB (cVar 6)) [12] (gSet 12) (cTt (c2 pEq (cIdx (cVar 12) (cK (.int 2))) (cVar 2))) (cGet 12)) (gSet 7)) (sIf (Qk (cTt (c2 pNe (cVar 6) (cLst cNil))) (tcOr (cTt (c2 pEq (cL pLen (Jb (cVar 4) cNil)) (cK (.int 1)))) (cTt (c2 pNe (cIdx (cVar 4) (c1 pNeg (cK (.int 1)))) (cVar 2))))) (sSeq (sAsg (cImm (cIdx (c2 pAdd (cVar 7) (cVar 6)) (Jo Jf (aOw (cMv 0) (some 0) (aRo (cL pLen (Jb (c2 pAdd (cVar 7) (cVar 6)) cNil)) aNil))))) (gSet 11)) (sSeq (ZE (cMut 3 kdL Uc (lVar 3) (Jb (cSl (cVar 11) pNo (pAt (cK (.int 2)))) cNil))) (ZE (cMut 4 kdL Uc (lVar 4) (Jb (cImm (cIdx (cVar 11) (cK (.int 2)))) cNil))))) sNil))))
def Jci:CS:=(sSeq (sPar 3 4 (Jb (cLst cNil) (Jb (cLst (Jb (cImm (cVar 2)) cNil)) cNil))) (sSeq (sFor (ZH (Jb (cK (.int 8)) cNil)) (gSet 5) QN) (sRet (cL JaL (Jb (cVar 3) cNil)))))
def ZT:List D→FR:=JO 16 [true,false,false] Jci
theorem ok__law_round {f:Addr} {fd:FuncData} (F:Fun K "_law_round" "_law_round" YU f fd) (z_range:mg "range" = none) (z_enumerate:mg "enumerate" = none) (z_len:mg "len" = none) (z_tuple:mg "tuple" = none) (d__law_draw:Fd P w K mg base 1 "_law_draw" ["_law_tape_here", "_law_many"] [true,false] Jf):FnOk P w K mg base (L2.CX P w) 2 f fd ["_law_tape_here", "_law_joinings_here", "_law_name"] (spF K mg [true,false,false] ZT):=by
 refine' fn_ok (M:=_) (Vs:=_) F sc__law_round rfl ?hv fun cdv A outer s H E hr=>?hb
 case hb =>
  have hr:Room 1 (cxOf (L2.CX P w) P w K mg base ["_law_tape_here", "_law_joinings_here", "_law_name", "_law_way", "_law_met_here", "_law_turn_here", "_law_some", "_law_home", "_law_number", "_law_joining", "_law_side", "_law_pick", "_law_one", "_law_begin", "_law_end", "_law_pair"] "_law_round" (defScope YU) f cdv A outer s H E).A:=hr
  have hN:(cxOf (L2.CX P w) P w K mg base ["_law_tape_here", "_law_joinings_here", "_law_name", "_law_way", "_law_met_here", "_law_turn_here", "_law_some", "_law_home", "_law_number", "_law_joining", "_law_side", "_law_pick", "_law_one", "_law_begin", "_law_end", "_law_pair"] "_law_round" (defScope YU) f cdv A outer s H E).N.Nodup:=sc__law_round.nd
  have tk:Takes (cxOf (L2.CX P w) P w K mg base ["_law_tape_here", "_law_joinings_here", "_law_name", "_law_way", "_law_met_here", "_law_turn_here", "_law_some", "_law_home", "_law_number", "_law_joining", "_law_side", "_law_pick", "_law_one", "_law_begin", "_law_end", "_law_pair"] "_law_round" (defScope YU) f cdv A outer s H E) (fun cls d _ H=>E cls d H):=takes_of rfl rfl rfl rfl
  have hp:=passes_of (X:=cxOf (L2.CX P w) P w K mg base ["_law_tape_here", "_law_joinings_here", "_law_name", "_law_way", "_law_met_here", "_law_turn_here", "_law_some", "_law_home", "_law_number", "_law_joining", "_law_side", "_law_pick", "_law_one", "_law_begin", "_law_end", "_law_pair"] "_law_round" (defScope YU) f cdv A outer s H E) rfl
  have D__law_draw:=(d__law_draw).mono (k:=1) (by omega)
  refine'(Jh (Jb1 rfl hN (Jc (Yk Jj) (Jc (Yk (Jc (SB.imm (Ja 2)) Jj)) Jj))) (Jh (ZD hp rfl (Jae (by rfl) z_range (Jg (SO.sb Jd) Jt)) (Jl 5 hN) (Jh (JC hN (Yk Jj)) (Jh (ZD hp rfl (JfI (by rfl) z_enumerate (Ja 1)) (YX rfl (Js (Jl 8 hN) (Js (Jl 9 hN) Yo))) (Jm (ZD hp rfl (Yu (SO.sb (JH (Jc Jd (Jc (Zf (SO.sb Jd)) Jj))))) (Jl 10 hN) (Jh (UW (Jdg (SO.sb (Ug (Ja 9) Jab (QK (SO.sb Jd)) (by decide))) (Ja 10) (by decide)) (YX rfl (Js (Jl 13 hN) (Js (Jl 14 hN) Yo)))) (Jm (Yd (SW.st (QX (Jv (Uj hr) (Ja 13) (Jx hr (Ja 4) (SO.sb (Zf (SO.sb Jd))))) (QX (Jv (QV hr) (Ja 14) (SO.sb (Ug (Ja 4) (QK (SO.sb Jd)) Jab (by decide)))) (QB (Jv (QV hr) (Ja 8) (SO.sb (Qx (own:=[("_law_pair", 15)]) [15] rfl hN (Yu (Ja 3)) (blkOk_by (N:=["_law_tape_here", "_law_joinings_here", "_law_name", "_law_way", "_law_met_here", "_law_turn_here", "_law_some", "_law_home", "_law_number", "_law_joining", "_law_side", "_law_pick", "_law_one", "_law_begin", "_law_end", "_law_pair"]) (sc:=defScope YU) (own:=[("_law_pair", 15)]) (by decide +kernel)) (fun _ _ _ _ _=>(Jl 15 hN)) (fun _ _ _ _ _=>Uy) (fun _ _ _ _ _=>(SB.imm (Jx hr (Ja 15) (SO.sb Jd)))) rfl (by decide) (by decide) (by intro _;rfl)))))))) (Jm (Qa (SO.sb (Qu (Za 6) (Jc (JH (Jc (JQ 8) (Jc (JQ 10) (Jc (SB.imm (Ja 14)) Jj)))) Jj) (by decide) (by rfl) (by rfl) (by rfl) (by rfl) (by rfl))))) JM)))))) (Jh (JdH (own:=[("_law_one", 12)]) [12] rfl hN (Yu (Ja 6)) (blkOk_by (N:=["_law_tape_here", "_law_joinings_here", "_law_name", "_law_way", "_law_met_here", "_law_turn_here", "_law_some", "_law_home", "_law_number", "_law_joining", "_law_side", "_law_pick", "_law_one", "_law_begin", "_law_end", "_law_pair"]) (sc:=defScope YU) (own:=[("_law_one", 12)]) (by decide +kernel)) (fun _ _ _ _ _=>(Jl 12 hN)) (fun _ _ _ _ _=>(Jck (Jv (Uj hr) (Jx hr (Ja 12) (SO.sb Jd)) (Ja 2)))) (fun _ _ _ _ _=>(JQ 12)) rfl (by decide) (by decide) (by intro _;rfl) (by rfl) (by rfl) (by rfl)) (Jm (Yd (SW.st (QX (Jv (ZL hr) (Ja 6) (SO.sb (Yk Jj))) (QB (SW.st (Qe (Jv (Uj hr) (SO.sb (Jp Yn (by rfl) z_len (by rfl) (Jg (Ja 4) Jt))) (SO.sb Jd)) (QT (Jv (ZL hr) (Jx hr (Ja 4) (SO.sb (Zf (SO.sb Jd)))) (Ja 2)))))))) (Jh (JC hN (SB.imm (Jx hr (SO.sb (JA Yv (Ja 7) (Ja 6))) (SO.sb (Jr D__law_draw hr tk (JD (Ji (SO.sb (Jp Yn (by rfl) z_len (by rfl) (Jg (SO.sb (JA Yv (Ja 7) (Ja 6))) Jt))) Jq))))))) (Jh (Qa (SO.sb (Qu (Za 3) (Jc (Ug (Ja 11) Jab (QK (SO.sb Jd)) (by decide)) Jj) (by decide) (by rfl) (by rfl) (by rfl) (by rfl) (by rfl)))) (Jm (Qa (SO.sb (Qu (Za 4) (Jc (SB.imm (Jx hr (Ja 11) (SO.sb Jd))) Jj) (by decide) (by rfl) (by rfl) (by rfl) (by rfl) (by rfl))))))) JM)))))) (Jm (Jy (YH Jcj (by rfl) z_tuple (by rfl) (Jg (Ja 3) Jt))))))
 case hv=>decide
abbrev YC:Stmt:=top 45
theorem sc__law_papers:FnScope ["_law_tape_here", "_law_names_here", "_law_joinings_here", "_law_turn_here", "_law_one", "_law_numbers_here", "_law_rows", "_law_name", "_law_way", "_law_end", "_law_own", "_law_group", "_law_more", "_law_begin", "_law_ring", "_law_papers_here"] ["_law_tape_here", "_law_names_here", "_law_joinings_here", "_law_turn_here"] (defScope YC):=⟨rfl,rfl,rfl,by decide +kernel,rfl,by decide +kernel,by decide +kernel⟩
def JbK:CS:=(sSeq (sAsg (cTup (Jb (cImm (cIdx (cVar 1) (Jo Jf (aOw (cMv 0) (some 0) (aRo (cL pLen (Jb (cVar 1) cNil)) aNil))))) (Jb (Jo Zi (aRo (cVar 1) (aRo (cVar 2) aNil))) cNil))) (JI 2 (Je (gSet 4) (Je (gSet 5) JL)))) (sSeq (sAsg (cLc (JB (cL YE (Jb (cVar 1) cNil))) [7] (gSet 7) cYes (cTup (Jes 7 (Jb (cImm (cIdx (cVar 5) (cVar 7))) cNil)))) (gSet 6)) (sSeq (sAsg (Jo UT (aOw (cMv 0) (some 0) (aRo (cVar 2) (aRo (cVar 4) aNil)))) (JI 2 (Je (gSet 8) (Je (gSet 9) JL)))) (sSeq (sAsg (cImm (cIdx (cLc (JB (cFix (Jo YV (aRo (cVar 1) (aRo (cVar 2) aNil))))) [11] (gSet 11) (cTt (c2 pInW (cVar 4) (cVar 11))) (cGet 11)) (cK (.int 0)))) (gSet 10)) (sSeq (sAsg (Jo YA (aOw (cMv 0) (some 0) (aOw (cMv 2) (some 2) aNil))) (JI 3 (Je (gSet 12) (Je (gSet 13) (Je (gSet 14) JL))))) (sSeq (sAsg (cLst (Jb (cTup (Jb (cK (.int 0)) (Jb (cTup (Jb (cImm (cVar 1)) (Jb (cFix (Jo Up (aRo (cVar 2) (aRo (cVar 5) (aRo (cVar 3) aNil))))) (Jb (cGet 3) cNil)))) (Jb (cTup (Jb (cImm (cVar 4)) (Jb (cImm (cVar 4)) cNil))) (Jb (cFix (cGet 6)) cNil))))) cNil)) (gSet 15)) (sSeq (ZE (cMut 15 kdL Uc (lVar 15) (Jb (cTup (Jb (cK (.int 1)) (Jb (cTup (Jb (cImm (cVar 1)) (Jb (cImm (cVar 12)) (Jb (cGet 3) cNil)))) (Jb (cTup (Jb (cImm (cVar 13)) (Jb (cImm (cVar 13)) cNil))) (Jb (cImm (cVar 14)) cNil))))) cNil))) (sSeq (ZE (cMut 15 kdL Uc (lVar 15) (Jb (cTup (Jb (cK (.int 1)) (Jb (cTup (Jb (cImm (cVar 1)) (Jb (cImm (cVar 2)) (Jb (cGet 3) cNil)))) (Jb (cTup (Jb (cImm (cVar 4)) (Jb (cImm (cVar 4)) cNil))) (Jb (Jo ZT (aOw (cMv 0) (some 0) (aRo (cVar 2) (aRo (cVar 4) aNil)))) cNil))))) cNil))) (sSeq (ZE (cMut 15 kdL Uc (lVar 15) (Jb (cTup (Jb (cK (.int 2)) (Jb (cTup (Jb (cImm (cVar 1)) (Jb (cImm (cVar 2)) (Jb (cGet 3) cNil)))) (Jb (cTup (Jb (cImm (cVar 4)) (Jb (cImm (cVar 9)) cNil))) (Jb (cImm (cVar 8)) cNil))))) cNil))) (sRet (c2 pAdd (cVar 15) (cSl (cLst (Jb (cTup (Jb (cK (.int 3)) (Jb (cTup (Jb (cImm (cVar 1)) (Jb (cImm (cVar 2)) (Jb (cGet 3) cNil)))) (Jb (cTup (Jb (cImm (cVar 4)) (Jb (cK (.str "last")) cNil))) (Jb (cImm (cVar 10)) cNil))))) cNil)) pNo (pAt (cL JbF (Jb (c2 pNe (cVar 4) (cK (.str "last"))) cNil)))))))))))))))
def Zz:List D→FR:=JO 16 [true,true,true,false] JbK
theorem ok__law_papers {f:Addr} {fd:FuncData} (F:Fun K "_law_papers" "_law_papers" YC f fd) (z_len:mg "len" = none) (z_sorted:mg "sorted" = none) (z_int:mg "int" = none) (d__law_draw:Fd P w K mg base 1 "_law_draw" ["_law_tape_here", "_law_many"] [true,false] Jf) (d__law_numbers:Fd P w K mg base 2 "_law_numbers" ["_law_names_here", "_law_joinings_here"] [false,false] Zi) (d__law_straight:Fd P w K mg base 2 "_law_straight" ["_law_tape_here", "_law_joinings_here", "_law_name"] [true,false,false] UT) (d__law_classes:Fd P w K mg base 1 "_law_classes" ["_law_names_here", "_law_joinings_here"] [false,false] YV) (d__law_twinned:Fd P w K mg base 2 "_law_twinned" ["_law_tape_here", "_law_joinings_here"] [true,true] YA) (d__law_coming_out:Fd P w K mg base 2 "_law_coming_out" ["_law_joinings_here", "_law_numbers_here", "_law_turn_here"] [false,false,false] Up) (d__law_round:Fd P w K mg base 2 "_law_round" ["_law_tape_here", "_law_joinings_here", "_law_name"] [true,false,false] ZT):FnOk P w K mg base (L2.CX P w) 3 f fd ["_law_tape_here", "_law_names_here", "_law_joinings_here", "_law_turn_here"] (spF K mg [true,true,true,false] Zz):=by
 refine' fn_ok (M:=_) (Vs:=_) F sc__law_papers rfl ?hv fun cdv A outer s H E hr=>?hb
 case hb =>
  have hr:Room 2 (cxOf (L2.CX P w) P w K mg base ["_law_tape_here", "_law_names_here", "_law_joinings_here", "_law_turn_here", "_law_one", "_law_numbers_here", "_law_rows", "_law_name", "_law_way", "_law_end", "_law_own", "_law_group", "_law_more", "_law_begin", "_law_ring", "_law_papers_here"] "_law_papers" (defScope YC) f cdv A outer s H E).A:=hr
  have hN:(cxOf (L2.CX P w) P w K mg base ["_law_tape_here", "_law_names_here", "_law_joinings_here", "_law_turn_here", "_law_one", "_law_numbers_here", "_law_rows", "_law_name", "_law_way", "_law_end", "_law_own", "_law_group", "_law_more", "_law_begin", "_law_ring", "_law_papers_here"] "_law_papers" (defScope YC) f cdv A outer s H E).N.Nodup:=sc__law_papers.nd
  have tk:Takes (cxOf (L2.CX P w) P w K mg base ["_law_tape_here", "_law_names_here", "_law_joinings_here", "_law_turn_here", "_law_one", "_law_numbers_here", "_law_rows", "_law_name", "_law_way", "_law_end", "_law_own", "_law_group", "_law_more", "_law_begin", "_law_ring", "_law_papers_here"] "_law_papers" (defScope YC) f cdv A outer s H E) (fun cls d _ H=>E cls d H):=takes_of rfl rfl rfl rfl
  have hp:=passes_of (X:=cxOf (L2.CX P w) P w K mg base ["_law_tape_here", "_law_names_here", "_law_joinings_here", "_law_turn_here", "_law_one", "_law_numbers_here", "_law_rows", "_law_name", "_law_way", "_law_end", "_law_own", "_law_group", "_law_more", "_law_begin", "_law_ring", "_law_papers_here"] "_law_papers" (defScope YC) f cdv A outer s H E) rfl
  have D__law_draw:=(d__law_draw).mono (k:=2) (by omega)
  have D__law_numbers:=(d__law_numbers).mono (k:=2) (by omega)
  have D__law_straight:=(d__law_straight).mono (k:=2) (by omega)
  have D__law_classes:=(d__law_classes).mono (k:=2) (by omega)
  have D__law_twinned:=(d__law_twinned).mono (k:=2) (by omega)
  have D__law_coming_out:=(d__law_coming_out).mono (k:=2) (by omega)
  have D__law_round:=(d__law_round).mono (k:=2) (by omega)
  refine'(Jh (UW (JH (Jc (SB.imm (Jx hr (Ja 1) (SO.sb (Jr D__law_draw hr tk (JD (Ji (SO.sb (Jp Yn (by rfl) z_len (by rfl) (Jg (Ja 1) Jt))) Jq)))))) (Jc (Jr D__law_numbers hr tk (Ji (Ja 1) (Ji (Ja 2) Jq))) Jj))) (YX rfl (Js (Jl 4 hN) (Js (Jl 5 hN) Yo)))) (Jh (JdH (own:=[("_law_name", 7)]) [7] rfl hN (Yu (SO.sb (Jp (Jba hr rfl) (by rfl) z_sorted (by rfl) (Jg (Ja 1) Jt)))) (blkOk_by (N:=["_law_tape_here", "_law_names_here", "_law_joinings_here", "_law_turn_here", "_law_one", "_law_numbers_here", "_law_rows", "_law_name", "_law_way", "_law_end", "_law_own", "_law_group", "_law_more", "_law_begin", "_law_ring", "_law_papers_here"]) (sc:=defScope YC) (own:=[("_law_name", 7)]) (by decide +kernel)) (fun _ _ _ _ _=>(Jl 7 hN)) (fun _ _ _ _ _=>Uy) (fun _ _ _ _ _=>(JH (sao_late 7 (Jc (SB.imm (Jx hr (Ja 5) (Ja 7))) Jj) (by decide) (by rfl) (by first | exact Or.inl rfl | exact Or.inr (Or.inl rfl) | exact Or.inr (Or.inr rfl)) (by decide) (by decide) (by rfl)))) rfl (by decide) (by decide) (by intro _;rfl) (by rfl) (by rfl) (by rfl)) (Jh (UW (Jr D__law_straight hr tk (JD (Ji (Ja 2) (Ji (Ja 4) Jq)))) (YX rfl (Js (Jl 8 hN) (Js (Jl 9 hN) Yo)))) (Jh (JC hN (SB.imm (Jx hr (SO.sb (Qx (own:=[("_law_group", 11)]) [11] rfl hN (Yu (SO.sb (QF (Jr D__law_classes hr tk (Ji (Ja 1) (Ji (Ja 2) Jq)))))) (blkOk_by (N:=["_law_tape_here", "_law_names_here", "_law_joinings_here", "_law_turn_here", "_law_one", "_law_numbers_here", "_law_rows", "_law_name", "_law_way", "_law_end", "_law_own", "_law_group", "_law_more", "_law_begin", "_law_ring", "_law_papers_here"]) (sc:=defScope YC) (own:=[("_law_group", 11)]) (by decide +kernel)) (fun _ _ _ _ _=>(Jl 11 hN)) (fun _ _ _ _ _=>(Jck (Jv (QH hr) (Ja 4) (Ja 11)))) (fun _ _ _ _ _=>(JQ 11)) rfl (by decide) (by decide) (by intro _;rfl))) (SO.sb Jd)))) (Jh (UW (Jr D__law_twinned hr tk (JD (JD Jq))) (YX rfl (Js (Jl 12 hN) (Js (Jl 13 hN) (Js (Jl 14 hN) Yo))))) (Jh (JC hN (Yk (Jc (JH (Jc Jd (Jc (JH (Jc (SB.imm (Ja 1)) (Jc (QF (Jr D__law_coming_out hr tk (Ji (Ja 2) (Ji (Ja 5) (Ji (Ja 3) Jq))))) (Jc (JQ 3) Jj)))) (Jc (JH (Jc (SB.imm (Ja 4)) (Jc (SB.imm (Ja 4)) Jj))) (Jc (QF (JQ 6)) Jj))))) Jj))) (Jh (Qa (SO.sb (Qu (Za 15) (Jc (JH (Jc Jd (Jc (JH (Jc (SB.imm (Ja 1)) (Jc (SB.imm (Ja 12)) (Jc (JQ 3) Jj)))) (Jc (JH (Jc (SB.imm (Ja 13)) (Jc (SB.imm (Ja 13)) Jj))) (Jc (SB.imm (Ja 14)) Jj))))) Jj) (by decide) (by rfl) (by rfl) (by rfl) (by rfl) (by rfl)))) (Jh (Qa (SO.sb (Qu (Za 15) (Jc (JH (Jc Jd (Jc (JH (Jc (SB.imm (Ja 1)) (Jc (SB.imm (Ja 2)) (Jc (JQ 3) Jj)))) (Jc (JH (Jc (SB.imm (Ja 4)) (Jc (SB.imm (Ja 4)) Jj))) (Jc (Jr D__law_round hr tk (JD (Ji (Ja 2) (Ji (Ja 4) Jq)))) Jj))))) Jj) (by decide) (by rfl) (by rfl) (by rfl) (by rfl) (by rfl)))) (Jh (Qa (SO.sb (Qu (Za 15) (Jc (JH (Jc Jd (Jc (JH (Jc (SB.imm (Ja 1)) (Jc (SB.imm (Ja 2)) (Jc (JQ 3) Jj)))) (Jc (JH (Jc (SB.imm (Ja 4)) (Jc (SB.imm (Ja 9)) Jj))) (Jc (SB.imm (Ja 8)) Jj))))) Jj) (by decide) (by rfl) (by rfl) (by rfl) (by rfl) (by rfl)))) (Jm (Jy (JA Yv (Ja 15) (SO.sb (Ug (SO.sb (Yk (Jc (JH (Jc Jd (Jc (JH (Jc (SB.imm (Ja 1)) (Jc (SB.imm (Ja 2)) (Jc (JQ 3) Jj)))) (Jc (JH (Jc (SB.imm (Ja 4)) (Jc Qj Jj))) (Jc (SB.imm (Ja 10)) Jj))))) Jj))) Jab (QK (SO.sb (YH Je3 (by rfl) z_int (by rfl) (Jg (SO.sb (YG (ZL hr) (Ja 4) (SO.sb Qj))) Jt)))) (by decide)))))))))))))))
 case hv=>decide
abbrev ZQ:Stmt:=top 8
theorem sc_is_list:FnScope ["thing"] ["thing"] (defScope ZQ):=⟨rfl,rfl,rfl,by decide +kernel,rfl,by decide +kernel,by decide +kernel⟩
def Jex:CS:=(sRet (cL pIsi (Jb (cVar 0) (Jb (cTup (Jb (cK (.ty "list")) (Jb (cK (.ty "tuple")) cNil))) cNil))))
def UX:List D→FR:=JO 1 [false] Jex
theorem ok_is_list {f:Addr} {fd:FuncData} (F:Fun K "is_list" "is_list" ZQ f fd) (z_list:mg "list" = none) (z_tuple:mg "tuple" = none) (z_isinstance:mg "isinstance" = none):FnOk P w K mg base (L2.CX P w) 1 f fd ["thing"] (spF K mg [false] UX):=by
 refine' fn_ok (M:=_) (Vs:=_) F sc_is_list rfl ?hv fun cdv A outer s H E hr=>?hb
 case hb =>
  have hr:Room 0 (cxOf (L2.CX P w) P w K mg base ["thing"] "is_list" (defScope ZQ) f cdv A outer s H E).A:=hr
  have hN:(cxOf (L2.CX P w) P w K mg base ["thing"] "is_list" (defScope ZQ) f cdv A outer s H E).N.Nodup:=sc_is_list.nd
  have tk:Takes (cxOf (L2.CX P w) P w K mg base ["thing"] "is_list" (defScope ZQ) f cdv A outer s H E) (fun cls d _ H=>E cls d H):=takes_of rfl rfl rfl rfl
  have hp:=passes_of (X:=cxOf (L2.CX P w) P w K mg base ["thing"] "is_list" (defScope ZQ) f cdv A outer s H E) rfl
  refine'(Jm (Jy (Jp UF (by rfl) z_isinstance (by rfl) (Jg (Ja 0) (Jg (SO.sb (JH (Jc (Zj (by rfl) z_list (by rfl)) (Jc (Zj (by rfl) z_tuple (by rfl)) Jj)))) Jt)))))
 case hv=>decide
abbrev UI:Stmt:=top 7
theorem sc_is_row_of:FnScope ["thing", "many"] ["thing", "many"] (defScope UI):=⟨rfl,rfl,rfl,by decide +kernel,rfl,by decide +kernel,by decide +kernel⟩
def Jbw:CS:=(sRet (cAnd (cL pIsi (Jb (cVar 0) (Jb (cK (.ty "tuple")) cNil))) (c2 pEq (cL pLen (Jb (cVar 0) cNil)) (cVar 1))))
def Yt:List D→FR:=JO 2 [false,false] Jbw
theorem ok_is_row_of {f:Addr} {fd:FuncData} (F:Fun K "is_row_of" "is_row_of" UI f fd) (z_tuple:mg "tuple" = none) (z_isinstance:mg "isinstance" = none) (z_len:mg "len" = none):FnOk P w K mg base (L2.CX P w) 1 f fd ["thing", "many"] (spF K mg [false,false] Yt):=by
 refine' fn_ok (M:=_) (Vs:=_) F sc_is_row_of rfl ?hv fun cdv A outer s H E hr=>?hb
 case hb =>
  have hr:Room 0 (cxOf (L2.CX P w) P w K mg base ["thing", "many"] "is_row_of" (defScope UI) f cdv A outer s H E).A:=hr
  have hN:(cxOf (L2.CX P w) P w K mg base ["thing", "many"] "is_row_of" (defScope UI) f cdv A outer s H E).N.Nodup:=sc_is_row_of.nd
  have tk:Takes (cxOf (L2.CX P w) P w K mg base ["thing", "many"] "is_row_of" (defScope UI) f cdv A outer s H E) (fun cls d _ H=>E cls d H):=takes_of rfl rfl rfl rfl
  have hp:=passes_of (X:=cxOf (L2.CX P w) P w K mg base ["thing", "many"] "is_row_of" (defScope UI) f cdv A outer s H E) rfl
  refine'(Jm (Jy (Qy (SO.sb (Jp UF (by rfl) z_isinstance (by rfl) (Jg (Ja 0) (Jg (SO.sb (Zj (by rfl) z_tuple (by rfl))) Jt)))) (Jat (YG (Uj hr) (SO.sb (Jp Yn (by rfl) z_len (by rfl) (Jg (Ja 0) Jt))) (Ja 1))))))
 case hv=>decide
abbrev Zt:Stmt:=top 6
theorem sc_is_whole:FnScope ["thing"] ["thing"] (defScope Zt):=⟨rfl,rfl,rfl,by decide +kernel,rfl,by decide +kernel,by decide +kernel⟩
def JbT:CS:=(sRet (cAnd (cL pIsi (Jb (cVar 0) (Jb (cK (.ty "int")) cNil))) (cNot (cL pIsi (Jb (cVar 0) (Jb (cK (.ty "bool")) cNil))))))
def Ub:List D→FR:=JO 1 [false] JbT
theorem ok_is_whole {f:Addr} {fd:FuncData} (F:Fun K "is_whole" "is_whole" Zt f fd) (z_int:mg "int" = none) (z_isinstance:mg "isinstance" = none) (z_bool:mg "bool" = none):FnOk P w K mg base (L2.CX P w) 1 f fd ["thing"] (spF K mg [false] Ub):=by
 refine' fn_ok (M:=_) (Vs:=_) F sc_is_whole rfl ?hv fun cdv A outer s H E hr=>?hb
 case hb =>
  have hr:Room 0 (cxOf (L2.CX P w) P w K mg base ["thing"] "is_whole" (defScope Zt) f cdv A outer s H E).A:=hr
  have hN:(cxOf (L2.CX P w) P w K mg base ["thing"] "is_whole" (defScope Zt) f cdv A outer s H E).N.Nodup:=sc_is_whole.nd
  have tk:Takes (cxOf (L2.CX P w) P w K mg base ["thing"] "is_whole" (defScope Zt) f cdv A outer s H E) (fun cls d _ H=>E cls d H):=takes_of rfl rfl rfl rfl
  have hp:=passes_of (X:=cxOf (L2.CX P w) P w K mg base ["thing"] "is_whole" (defScope Zt) f cdv A outer s H E) rfl
  refine'(Jm (Jy (Qy (SO.sb (Jp UF (by rfl) z_isinstance (by rfl) (Jg (Ja 0) (Jg (SO.sb (Zj (by rfl) z_int (by rfl))) Jt)))) (Jat (Jga (SO.sb (Jp UF (by rfl) z_isinstance (by rfl) (Jg (Ja 0) (Jg (SO.sb (Zj (by rfl) z_bool (by rfl))) Jt)))))))))
 case hv=>decide
abbrev Zu:Stmt:=top 13
theorem sc_is_named:FnScope ["names", "thing"] ["names", "thing"] (defScope Zu):=⟨rfl,rfl,rfl,by decide +kernel,rfl,by decide +kernel,by decide +kernel⟩
def JdQ:CS:=(sRet (cAnd (cL pIsi (Jb (cVar 1) (Jb (cK (.ty "str")) cNil))) (c2 pInW (cVar 1) (cVar 0))))
def Zk:List D→FR:=JO 2 [false,false] JdQ
theorem ok_is_named {f:Addr} {fd:FuncData} (F:Fun K "is_named" "is_named" Zu f fd) (z_str:mg "str" = none) (z_isinstance:mg "isinstance" = none):FnOk P w K mg base (L2.CX P w) 1 f fd ["names", "thing"] (spF K mg [false,false] Zk):=by
 refine' fn_ok (M:=_) (Vs:=_) F sc_is_named rfl ?hv fun cdv A outer s H E hr=>?hb
 case hb =>
  have hr:Room 0 (cxOf (L2.CX P w) P w K mg base ["names", "thing"] "is_named" (defScope Zu) f cdv A outer s H E).A:=hr
  have hN:(cxOf (L2.CX P w) P w K mg base ["names", "thing"] "is_named" (defScope Zu) f cdv A outer s H E).N.Nodup:=sc_is_named.nd
  have tk:Takes (cxOf (L2.CX P w) P w K mg base ["names", "thing"] "is_named" (defScope Zu) f cdv A outer s H E) (fun cls d _ H=>E cls d H):=takes_of rfl rfl rfl rfl
  have hp:=passes_of (X:=cxOf (L2.CX P w) P w K mg base ["names", "thing"] "is_named" (defScope Zu) f cdv A outer s H E) rfl
  refine'(Jm (Jy (Qy (SO.sb (Jp UF (by rfl) z_isinstance (by rfl) (Jg (Ja 1) (Jg (SO.sb (Zj (by rfl) z_str (by rfl))) Jt)))) (Jat (YG (QH hr) (Ja 1) (Ja 0))))))
 case hv=>decide
abbrev Us:Stmt:=top 12
theorem sc_are_unlike:FnScope ["some"] ["some"] (defScope Us):=⟨rfl,rfl,rfl,by decide +kernel,rfl,by decide +kernel,by decide +kernel⟩
def Ja0:CS:=(sRet (c2 pEq (Zw (cVar 0)) (cL pLen (Jb (cVar 0) cNil))))
def Ye:List D→FR:=JO 1 [false] Ja0
theorem ok_are_unlike {f:Addr} {fd:FuncData} (F:Fun K "are_unlike" "are_unlike" Us f fd) (z_len:mg "len" = none) (z_set:mg "set" = none):FnOk P w K mg base (L2.CX P w) 1 f fd ["some"] (spF K mg [false] Ye):=by
 refine' fn_ok (M:=_) (Vs:=_) F sc_are_unlike rfl ?hv fun cdv A outer s H E hr=>?hb
 case hb =>
  have hr:Room 0 (cxOf (L2.CX P w) P w K mg base ["some"] "are_unlike" (defScope Us) f cdv A outer s H E).A:=hr
  have hN:(cxOf (L2.CX P w) P w K mg base ["some"] "are_unlike" (defScope Us) f cdv A outer s H E).N.Nodup:=sc_are_unlike.nd
  have tk:Takes (cxOf (L2.CX P w) P w K mg base ["some"] "are_unlike" (defScope Us) f cdv A outer s H E) (fun cls d _ H=>E cls d H):=takes_of rfl rfl rfl rfl
  have hp:=passes_of (X:=cxOf (L2.CX P w) P w K mg base ["some"] "are_unlike" (defScope Us) f cdv A outer s H E) rfl
  refine'(Jm (Jy (YG (Uj hr) (SO.sb (JaY rfl (by rfl) z_len (by rfl) z_set (Ja 0) (by rfl))) (SO.sb (Jp Yn (by rfl) z_len (by rfl) (Jg (Ja 0) Jt))))))
 case hv=>decide
abbrev YQ:Stmt:=top 14
theorem sc_are_some_of:FnScope ["names", "thing", "name"] ["names", "thing"] (defScope YQ):=⟨rfl,rfl,rfl,by decide +kernel,rfl,by decide +kernel,by decide +kernel⟩
def Jaj:CS:=(sSeq (sIf (tcOr (Yq (cTt (Jo UX (aRo (cVar 1) aNil)))) (Yq (cTt (cL pAll (Jb (cLc (JB (cVar 1)) [2] (gSet 2) cYes (Jo Zk (aRo (cVar 0) (aRo (cVar 2) aNil)))) cNil))))) (sRet (cK (.bl false))) sNil) (sRet (Jo Ye (aRo (cVar 1) aNil))))
def Yx:List D→FR:=JO 3 [false,false] Jaj
theorem ok_are_some_of {f:Addr} {fd:FuncData} (F:Fun K "are_some_of" "are_some_of" YQ f fd) (z_all:mg "all" = none) (d_is_list:Fd P w K mg base 1 "is_list" ["thing"] [false] UX) (d_is_named:Fd P w K mg base 1 "is_named" ["names", "thing"] [false,false] Zk) (d_are_unlike:Fd P w K mg base 1 "are_unlike" ["some"] [false] Ye):FnOk P w K mg base (L2.CX P w) 2 f fd ["names", "thing"] (spF K mg [false,false] Yx):=by
 refine' fn_ok (M:=_) (Vs:=_) F sc_are_some_of rfl ?hv fun cdv A outer s H E hr=>?hb
 case hb =>
  have hr:Room 1 (cxOf (L2.CX P w) P w K mg base ["names", "thing", "name"] "are_some_of" (defScope YQ) f cdv A outer s H E).A:=hr
  have hN:(cxOf (L2.CX P w) P w K mg base ["names", "thing", "name"] "are_some_of" (defScope YQ) f cdv A outer s H E).N.Nodup:=sc_are_some_of.nd
  have tk:Takes (cxOf (L2.CX P w) P w K mg base ["names", "thing", "name"] "are_some_of" (defScope YQ) f cdv A outer s H E) (fun cls d _ H=>E cls d H):=takes_of rfl rfl rfl rfl
  have hp:=passes_of (X:=cxOf (L2.CX P w) P w K mg base ["names", "thing", "name"] "are_some_of" (defScope YQ) f cdv A outer s H E) rfl
  have D_is_list:=(d_is_list).mono (k:=1) (by omega)
  have D_is_named:=(d_is_named).mono (k:=1) (by omega)
  have D_are_unlike:=(d_are_unlike).mono (k:=1) (by omega)
  refine'(Jh (Yd (SW.st (Qe (UC (Uf (SO.sb (Jr D_is_list hr tk (Ji (Ja 1) Jq))))) (QT (UC (Uf (SO.sb (Jp (Jbo rfl) (by rfl) z_all (by rfl) (Jg (SO.sb (Qx (own:=[("name", 2)]) [2] rfl hN (Yu (Ja 1)) (blkOk_by (N:=["names", "thing", "name"]) (sc:=defScope YQ) (own:=[("name", 2)]) (by decide +kernel)) (fun _ _ _ _ _=>(Jl 2 hN)) (fun _ _ _ _ _=>Uy) (fun _ _ _ _ _=>(Jr D_is_named hr takes0 (Ji (Ja 0) (Ji (Ja 2) Jq)))) rfl (by decide) (by decide) (by intro _;rfl))) Jt)))))))) (Jm (Jy Qm)) JM) (Jm (Jy (Jr D_are_unlike hr tk (Ji (Ja 1) Jq)))))
 case hv=>decide
abbrev ZW:Stmt:=top 1
theorem sc_counted:FnScope ["turn", "n"] ["turn", "n"] (defScope ZW):=⟨rfl,rfl,rfl,by decide +kernel,rfl,by decide +kernel,by decide +kernel⟩
def JeD:CS:=(sSeq (sIf (cTt (c2 pEq (cVar 0) (cK (.int 0)))) (sRet (cGet 1)) sNil) (sRet (c2 pMod (cVar 1) (cVar 0))))
def Zs:List D→FR:=JO 2 [false,false] JeD
theorem ok_counted {f:Addr} {fd:FuncData} (F:Fun K "counted" "counted" ZW f fd)  : FnOk P w K mg base (L2.CX P w) 1 f fd ["turn", "n"] (spF K mg [false,false] Zs):=by
 refine' fn_ok (M:=_) (Vs:=_) F sc_counted rfl ?hv fun cdv A outer s H E hr=>?hb
 case hb =>
  have hr:Room 0 (cxOf (L2.CX P w) P w K mg base ["turn", "n"] "counted" (defScope ZW) f cdv A outer s H E).A:=hr
  have hN:(cxOf (L2.CX P w) P w K mg base ["turn", "n"] "counted" (defScope ZW) f cdv A outer s H E).N.Nodup:=sc_counted.nd
  have tk:Takes (cxOf (L2.CX P w) P w K mg base ["turn", "n"] "counted" (defScope ZW) f cdv A outer s H E) (fun cls d _ H=>E cls d H):=takes_of rfl rfl rfl rfl
  have hp:=passes_of (X:=cxOf (L2.CX P w) P w K mg base ["turn", "n"] "counted" (defScope ZW) f cdv A outer s H E) rfl
  refine'(Jh (Yd (Jv (Uj hr) (Ja 0) (SO.sb Jd)) (Jm (Jy (JQ 1))) JM) (Jm (Jy (JA JaZ (Ja 1) (Ja 0)))))
 case hv=>decide
abbrev Yb:Stmt:=top 15
theorem sc_shows_numbers:FnScope ["names", "joinings", "turn", "rows", "row", "numbers", "one", "other", "step"] ["names", "joinings", "turn", "rows"] (defScope Yb):=⟨rfl,rfl,rfl,by decide +kernel,rfl,by decide +kernel,by decide +kernel⟩
def ZK:CS:=(sSeq (sIf (tcOr (Yq (cTt (Jo UX (aRo (JG (cVar 3)) aNil)))) (Yq (cTt (cL pAll (Jb (cLc (JB (JG (cVar 3))) [4] (gSet 4) cYes (cAnd (Jo Yt (aRo (cVar 4) (aRo (cK (.int 2)) aNil))) (Jo Ub (aRo (cIdx (cVar 4) (cK (.int 1))) aNil)))) cNil))))) (sRet (cK (.bl false))) sNil) (sSeq (sIf (tcOr (Yq (cTt (Jo Yx (aRo (cVar 0) (aRo (cLc (JB (JG (cVar 3))) [4] (gSet 4) cYes (cImm (cIdx (cVar 4) (cK (.int 0))))) aNil))))) (cTt (c2 pNe (cL pLen (Jb (JG (cVar 3)) cNil)) (cL pLen (Jb (cVar 0) cNil))))) (sRet (cK (.bl false))) sNil) (sSeq (sAsg (cL Jeg (Jb (cVar 3) cNil)) (gSet 5)) (sRet (cL pAll (Jb (cLc (JB (cVar 1)) [6,7,8] (JI 3 (Je (gSet 6) (Je (gSet 7) (Je (gSet 8) JL)))) cYes (c2 pEq (Jo Zs (aRo (cVar 2) (aRo (c2 pSub (c2 pSub (cIdx (cVar 5) (cVar 7)) (cIdx (cVar 5) (cVar 6))) (cVar 8)) aNil))) (cK (.int 0)))) cNil))))))
def ZA:List D→FR:=JO 9 [false,false,false,false] ZK
theorem ok_shows_numbers {f:Addr} {fd:FuncData} (F:Fun K "shows_numbers" "shows_numbers" Yb f fd) (z_all:mg "all" = none) (z_len:mg "len" = none) (z_dict:mg "dict" = none) (d_is_list:Fd P w K mg base 1 "is_list" ["thing"] [false] UX) (d_is_row_of:Fd P w K mg base 1 "is_row_of" ["thing", "many"] [false,false] Yt) (d_is_whole:Fd P w K mg base 1 "is_whole" ["thing"] [false] Ub) (d_are_some_of:Fd P w K mg base 2 "are_some_of" ["names", "thing"] [false,false] Yx) (d_counted:Fd P w K mg base 1 "counted" ["turn", "n"] [false,false] Zs):FnOk P w K mg base (L2.CX P w) 3 f fd ["names", "joinings", "turn", "rows"] (spF K mg [false,false,false,false] ZA):=by
 refine' fn_ok (M:=_) (Vs:=_) F sc_shows_numbers rfl ?hv fun cdv A outer s H E hr=>?hb
 case hb =>
  have hr:Room 2 (cxOf (L2.CX P w) P w K mg base ["names", "joinings", "turn", "rows", "row", "numbers", "one", "other", "step"] "shows_numbers" (defScope Yb) f cdv A outer s H E).A:=hr
  have hN:(cxOf (L2.CX P w) P w K mg base ["names", "joinings", "turn", "rows", "row", "numbers", "one", "other", "step"] "shows_numbers" (defScope Yb) f cdv A outer s H E).N.Nodup:=sc_shows_numbers.nd
  have tk:Takes (cxOf (L2.CX P w) P w K mg base ["names", "joinings", "turn", "rows", "row", "numbers", "one", "other", "step"] "shows_numbers" (defScope Yb) f cdv A outer s H E) (fun cls d _ H=>E cls d H):=takes_of rfl rfl rfl rfl
  have hp:=passes_of (X:=cxOf (L2.CX P w) P w K mg base ["names", "joinings", "turn", "rows", "row", "numbers", "one", "other", "step"] "shows_numbers" (defScope Yb) f cdv A outer s H E) rfl
  have D_is_list:=(d_is_list).mono (k:=2) (by omega)
  have D_is_row_of:=(d_is_row_of).mono (k:=2) (by omega)
  have D_is_whole:=(d_is_whole).mono (k:=2) (by omega)
  have D_are_some_of:=(d_are_some_of).mono (k:=2) (by omega)
  have D_counted:=(d_counted).mono (k:=2) (by omega)
  refine'(Jh (Yd (SW.st (Qe (UC (Uf (SO.sb (Jr D_is_list hr tk (Ji (JX (Ja 3)) Jq))))) (QT (UC (Uf (SO.sb (Jp (Jbo rfl) (by rfl) z_all (by rfl) (Jg (SO.sb (Qx (own:=[("row", 4)]) [4] rfl hN (Yu (JX (Ja 3))) (blkOk_by (N:=["names", "joinings", "turn", "rows", "row", "numbers", "one", "other", "step"]) (sc:=defScope Yb) (own:=[("row", 4)]) (by decide +kernel)) (fun _ _ _ _ _=>(Jl 4 hN)) (fun _ _ _ _ _=>Uy) (fun _ _ _ _ _=>(Qy (SO.sb (Jr D_is_row_of hr takes0 (Ji (Ja 4) (Ji (SO.sb Jd) Jq)))) (Jat (Jr D_is_whole hr takes0 (Ji (Jx hr (Ja 4) (SO.sb Jd)) Jq))))) rfl (by decide) (by decide) (by intro _;rfl))) Jt)))))))) (Jm (Jy Qm)) JM) (Jh (Yd (SW.st (Qe (UC (Uf (SO.sb (Jr D_are_some_of hr tk (Ji (Ja 0) (Ji (SO.sb (Qx (own:=[("row", 4)]) [4] rfl hN (Yu (JX (Ja 3))) (blkOk_by (N:=["names", "joinings", "turn", "rows", "row", "numbers", "one", "other", "step"]) (sc:=defScope Yb) (own:=[("row", 4)]) (by decide +kernel)) (fun _ _ _ _ _=>(Jl 4 hN)) (fun _ _ _ _ _=>Uy) (fun _ _ _ _ _=>(SB.imm (Jx hr (Ja 4) (SO.sb Jd)))) rfl (by decide) (by decide) (by intro _;rfl))) Jq)))))) (QT (Jv (ZL hr) (SO.sb (Jp Yn (by rfl) z_len (by rfl) (Jg (JX (Ja 3)) Jt))) (SO.sb (Jp Yn (by rfl) z_len (by rfl) (Jg (Ja 0) Jt))))))) (Jm (Jy Qm)) JM) (Jh (JC hN (YH (od_dictH rfl) (by rfl) z_dict (by rfl) (Jg (Ja 3) Jt))) (Jm (Jy (Jp (Jbo rfl) (by rfl) z_all (by rfl) (Jg (SO.sb (Qx (own:=[("one", 6),("other", 7),("step", 8)]) [6,7,8] rfl hN (Yu (Ja 1)) (blkOk_by (N:=["names", "joinings", "turn", "rows", "row", "numbers", "one", "other", "step"]) (sc:=defScope Yb) (own:=[("one", 6),("other", 7),("step", 8)]) (by decide +kernel)) (fun _ _ _ _ _=>(YX rfl (Js (Jl 6 hN) (Js (Jl 7 hN) (Js (Jl 8 hN) Yo))))) (fun _ _ _ _ _=>Uy) (fun _ _ _ _ _=>(YG (Uj hr) (SO.sb (Jr D_counted hr takes0 (Ji (Ja 2) (Ji (SO.sb (JA Jax (SO.sb (JA Jax (Jx hr (Ja 5) (Ja 7)) (Jx hr (Ja 5) (Ja 6)))) (Ja 8))) Jq)))) (SO.sb Jd))) rfl (by decide) (by decide) (by intro _;rfl))) Jt)))))))
 case hv=>decide
abbrev Ud:Stmt:=top 33
theorem sc__law_is_int:FnScope ["_law_thing"] ["_law_thing"] (defScope Ud):=⟨rfl,rfl,rfl,by decide +kernel,rfl,by decide +kernel,by decide +kernel⟩
def JbM:CS:=(sRet (cAnd (cL pIsi (Jb (cVar 0) (Jb (cK (.ty "int")) cNil))) (cNot (cL pIsi (Jb (cVar 0) (Jb (cK (.ty "bool")) cNil))))))
def Yl:List D→FR:=JO 1 [false] JbM
theorem ok__law_is_int {f:Addr} {fd:FuncData} (F:Fun K "_law_is_int" "_law_is_int" Ud f fd) (z_int:mg "int" = none) (z_isinstance:mg "isinstance" = none) (z_bool:mg "bool" = none):FnOk P w K mg base (L2.CX P w) 1 f fd ["_law_thing"] (spF K mg [false] Yl):=by
 refine' fn_ok (M:=_) (Vs:=_) F sc__law_is_int rfl ?hv fun cdv A outer s H E hr=>?hb
 case hb =>
  have hr:Room 0 (cxOf (L2.CX P w) P w K mg base ["_law_thing"] "_law_is_int" (defScope Ud) f cdv A outer s H E).A:=hr
  have hN:(cxOf (L2.CX P w) P w K mg base ["_law_thing"] "_law_is_int" (defScope Ud) f cdv A outer s H E).N.Nodup:=sc__law_is_int.nd
  have tk:Takes (cxOf (L2.CX P w) P w K mg base ["_law_thing"] "_law_is_int" (defScope Ud) f cdv A outer s H E) (fun cls d _ H=>E cls d H):=takes_of rfl rfl rfl rfl
  have hp:=passes_of (X:=cxOf (L2.CX P w) P w K mg base ["_law_thing"] "_law_is_int" (defScope Ud) f cdv A outer s H E) rfl
  refine'(Jm (Jy (Qy (SO.sb (Jp UF (by rfl) z_isinstance (by rfl) (Jg (Ja 0) (Jg (SO.sb (Zj (by rfl) z_int (by rfl))) Jt)))) (Jat (Jga (SO.sb (Jp UF (by rfl) z_isinstance (by rfl) (Jg (Ja 0) (Jg (SO.sb (Zj (by rfl) z_bool (by rfl))) Jt)))))))))
 case hv=>decide
abbrev JV:Stmt:=top 34
theorem sc__law_numbers_due:FnScope ["_law_names_here", "_law_joinings_here", "_law_turn_here", "_law_rows", "_law_numbers_here", "_law_row", "_law_one", "_law_other", "_law_step_here"] ["_law_names_here", "_law_joinings_here", "_law_turn_here", "_law_rows"] (defScope JV):=⟨rfl,rfl,rfl,by decide +kernel,rfl,by decide +kernel,by decide +kernel⟩
def YZ:CS:=(sSeq (sIf (tcOr (Yq (cTt (cL pIsi (Jb (cVar 5) (Jb (cK (.ty "tuple")) cNil))))) (tcOr (cTt (c2 pNe (cL pLen (Jb (cVar 5) cNil)) (cK (.int 2)))) (tcOr (Yq (cTt (cL pIsi (Jb (cIdx (cVar 5) (cK (.int 0))) (Jb (cK (.ty "str")) cNil))))) (Yq (cTt (Jo Yl (aRo (cIdx (cVar 5) (cK (.int 1))) aNil))))))) (sRet (cK (.bl false))) sNil) (sAsg (cImm (cIdx (cVar 5) (cK (.int 1)))) (JaC 4 (lVar 4) (cIdx (cVar 5) (cK (.int 0))))))
def Zd:CS:=(sSeq (sIf (Yq (cTt (cL pIsi (Jb (cVar 3) (Jb (cTup (Jb (cK (.ty "list")) (Jb (cK (.ty "tuple")) cNil))) cNil))))) (sRet (cK (.bl false))) sNil) (sSeq (sAsg (cK (.dct .m [] [])) (gSet 4)) (sSeq (sFor (JB (cVar 3)) (gSet 5) YZ) (sSeq (sIf (tcOr (cTt (c2 pNe (cL YE (Jb (cVar 4) cNil)) (cL YE (Jb (cVar 0) cNil)))) (cTt (c2 pNe (cL pLen (Jb (cVar 3) cNil)) (cL pLen (Jb (cVar 0) cNil))))) (sRet (cK (.bl false))) sNil) (sRet (cL pAll (Jb (cLc (JB (cVar 1)) [6,7,8] (JI 3 (Je (gSet 6) (Je (gSet 7) (Je (gSet 8) JL)))) cYes (c2 pEq (Jo Ya (aRo (cVar 2) (aRo (c2 pSub (c2 pAdd (cIdx (cVar 4) (cVar 6)) (cVar 8)) (cIdx (cVar 4) (cVar 7))) aNil))) (cK (.int 0)))) cNil)))))))
def UE:List D→FR:=JO 9 [false,false,false,false] Zd
theorem ok__law_numbers_due {f:Addr} {fd:FuncData} (F:Fun K "_law_numbers_due" "_law_numbers_due" JV f fd) (z_list:mg "list" = none) (z_tuple:mg "tuple" = none) (z_isinstance:mg "isinstance" = none) (z_len:mg "len" = none) (z_str:mg "str" = none) (z_sorted:mg "sorted" = none) (z_all:mg "all" = none) (d__law_is_int:Fd P w K mg base 1 "_law_is_int" ["_law_thing"] [false] Yl) (d__law_counted:Fd P w K mg base 1 "_law_counted" ["_law_turn_here", "_law_n"] [false,false] Ya):FnOk P w K mg base (L2.CX P w) 2 f fd ["_law_names_here", "_law_joinings_here", "_law_turn_here", "_law_rows"] (spF K mg [false,false,false,false] UE):=by
 refine' fn_ok (M:=_) (Vs:=_) F sc__law_numbers_due rfl ?hv fun cdv A outer s H E hr=>?hb
 case hb =>
  have hr:Room 1 (cxOf (L2.CX P w) P w K mg base ["_law_names_here", "_law_joinings_here", "_law_turn_here", "_law_rows", "_law_numbers_here", "_law_row", "_law_one", "_law_other", "_law_step_here"] "_law_numbers_due" (defScope JV) f cdv A outer s H E).A:=hr
  have hN:(cxOf (L2.CX P w) P w K mg base ["_law_names_here", "_law_joinings_here", "_law_turn_here", "_law_rows", "_law_numbers_here", "_law_row", "_law_one", "_law_other", "_law_step_here"] "_law_numbers_due" (defScope JV) f cdv A outer s H E).N.Nodup:=sc__law_numbers_due.nd
  have tk:Takes (cxOf (L2.CX P w) P w K mg base ["_law_names_here", "_law_joinings_here", "_law_turn_here", "_law_rows", "_law_numbers_here", "_law_row", "_law_one", "_law_other", "_law_step_here"] "_law_numbers_due" (defScope JV) f cdv A outer s H E) (fun cls d _ H=>E cls d H):=takes_of rfl rfl rfl rfl
  have hp:=passes_of (X:=cxOf (L2.CX P w) P w K mg base ["_law_names_here", "_law_joinings_here", "_law_turn_here", "_law_rows", "_law_numbers_here", "_law_row", "_law_one", "_law_other", "_law_step_here"] "_law_numbers_due" (defScope JV) f cdv A outer s H E) rfl
  have D__law_is_int:=(d__law_is_int).mono (k:=1) (by omega)
  have D__law_counted:=(d__law_counted).mono (k:=1) (by omega)
  refine'(Jh (Yd (UC (Uf (SO.sb (Jp UF (by rfl) z_isinstance (by rfl) (Jg (Ja 3) (Jg (SO.sb (JH (Jc (Zj (by rfl) z_list (by rfl)) (Jc (Zj (by rfl) z_tuple (by rfl)) Jj)))) Jt)))))) (Jm (Jy Qm)) JM) (Jh (JC hN JfB) (Jh (ZD hp rfl (Yu (Ja 3)) (Jl 5 hN) (Jh (Yd (SW.st (Qe (UC (Uf (SO.sb (Jp UF (by rfl) z_isinstance (by rfl) (Jg (Ja 5) (Jg (SO.sb (Zj (by rfl) z_tuple (by rfl))) Jt)))))) (Qe (Jv (ZL hr) (SO.sb (Jp Yn (by rfl) z_len (by rfl) (Jg (Ja 5) Jt))) (SO.sb Jd)) (Qe (UC (Uf (SO.sb (Jp UF (by rfl) z_isinstance (by rfl) (Jg (Jx hr (Ja 5) (SO.sb Jd)) (Jg (SO.sb (Zj (by rfl) z_str (by rfl))) Jt)))))) (QT (UC (Uf (SO.sb (Jr D__law_is_int hr tk (Ji (Jx hr (Ja 5) (SO.sb Jd)) Jq)))))))))) (Jm (Jy Qm)) JM) (Jm (UW (SB.imm (Jx hr (Ja 5) (SO.sb Jd))) (Ja9 hr (W1:=fun cls d _ H=>E cls d H) (W2:=fun cls d _ H=>E cls d H) (Za 4) (Jx hr (Ja 5) (SO.sb Jd))))))) (Jh (Yd (SW.st (Qe (Jv (ZL hr) (SO.sb (Jp (Jba hr rfl) (by rfl) z_sorted (by rfl) (Jg (Ja 4) Jt))) (SO.sb (Jp (Jba hr rfl) (by rfl) z_sorted (by rfl) (Jg (Ja 0) Jt)))) (QT (Jv (ZL hr) (SO.sb (Jp Yn (by rfl) z_len (by rfl) (Jg (Ja 3) Jt))) (SO.sb (Jp Yn (by rfl) z_len (by rfl) (Jg (Ja 0) Jt))))))) (Jm (Jy Qm)) JM) (Jm (Jy (Jp (Jbo rfl) (by rfl) z_all (by rfl) (Jg (SO.sb (Qx (own:=[("_law_one", 6),("_law_other", 7),("_law_step_here", 8)]) [6,7,8] rfl hN (Yu (Ja 1)) (blkOk_by (N:=["_law_names_here", "_law_joinings_here", "_law_turn_here", "_law_rows", "_law_numbers_here", "_law_row", "_law_one", "_law_other", "_law_step_here"]) (sc:=defScope JV) (own:=[("_law_one", 6),("_law_other", 7),("_law_step_here", 8)]) (by decide +kernel)) (fun _ _ _ _ _=>(YX rfl (Js (Jl 6 hN) (Js (Jl 7 hN) (Js (Jl 8 hN) Yo))))) (fun _ _ _ _ _=>Uy) (fun _ _ _ _ _=>(YG (Uj hr) (SO.sb (Jr D__law_counted hr takes0 (Ji (Ja 2) (Ji (SO.sb (JA Jax (SO.sb (JA Yv (Jx hr (Ja 4) (Ja 6)) (Ja 8))) (Jx hr (Ja 4) (Ja 7)))) Jq)))) (SO.sb Jd))) rfl (by decide) (by decide) (by intro _;rfl))) Jt))))))))
 case hv=>decide
abbrev ZV:Stmt:=top 9
theorem sc_is_pair:FnScope ["thing"] ["thing"] (defScope ZV):=⟨rfl,rfl,rfl,by decide +kernel,rfl,by decide +kernel,by decide +kernel⟩
def JcR:CS:=(sRet (cAnd (Jo Yt (aRo (cVar 0) (aRo (cK (.int 2)) aNil))) (cAnd (Jo Ub (aRo (cIdx (cVar 0) (cK (.int 0))) aNil)) (cAnd (Jo Ub (aRo (cIdx (cVar 0) (cK (.int 1))) aNil)) (c2 pInW (cIdx (cVar 0) (cK (.int 1))) (cTup (Jb (cK (.int 1)) (Jb (c1 pNeg (cK (.int 1))) cNil))))))))
def ZJ:List D→FR:=JO 1 [false] JcR
theorem ok_is_pair {f:Addr} {fd:FuncData} (F:Fun K "is_pair" "is_pair" ZV f fd) (d_is_row_of:Fd P w K mg base 1 "is_row_of" ["thing", "many"] [false,false] Yt) (d_is_whole:Fd P w K mg base 1 "is_whole" ["thing"] [false] Ub):FnOk P w K mg base (L2.CX P w) 2 f fd ["thing"] (spF K mg [false] ZJ):=by
 refine' fn_ok (M:=_) (Vs:=_) F sc_is_pair rfl ?hv fun cdv A outer s H E hr=>?hb
 case hb =>
  have hr:Room 1 (cxOf (L2.CX P w) P w K mg base ["thing"] "is_pair" (defScope ZV) f cdv A outer s H E).A:=hr
  have hN:(cxOf (L2.CX P w) P w K mg base ["thing"] "is_pair" (defScope ZV) f cdv A outer s H E).N.Nodup:=sc_is_pair.nd
  have tk:Takes (cxOf (L2.CX P w) P w K mg base ["thing"] "is_pair" (defScope ZV) f cdv A outer s H E) (fun cls d _ H=>E cls d H):=takes_of rfl rfl rfl rfl
  have hp:=passes_of (X:=cxOf (L2.CX P w) P w K mg base ["thing"] "is_pair" (defScope ZV) f cdv A outer s H E) rfl
  have D_is_row_of:=(d_is_row_of).mono (k:=1) (by omega)
  have D_is_whole:=(d_is_whole).mono (k:=1) (by omega)
  refine'(Jm (Jy (Qy (SO.sb (Jr D_is_row_of hr tk (Ji (Ja 0) (Ji (SO.sb Jd) Jq)))) (Qy (SO.sb (Jr D_is_whole hr tk (Ji (Jx hr (Ja 0) (SO.sb Jd)) Jq))) (Qy (SO.sb (Jr D_is_whole hr tk (Ji (Jx hr (Ja 0) (SO.sb Jd)) Jq))) (Jat (YG (QH hr) (Jx hr (Ja 0) (SO.sb Jd)) (SO.sb (JH (Jc Jd (Jc (Zf (SO.sb Jd)) Jj)))))))))))
 case hv=>decide
abbrev Qi:Stmt:=top 10
theorem sc_is_way:FnScope ["thing", "pair"] ["thing"] (defScope Qi):=⟨rfl,rfl,rfl,by decide +kernel,rfl,by decide +kernel,by decide +kernel⟩
def JdP:CS:=(sRet (cAnd (cL pIsi (Jb (cVar 0) (Jb (cK (.ty "tuple")) cNil))) (cL pAll (Jb (cLc (JB (cVar 0)) [1] (gSet 1) cYes (Jo ZJ (aRo (cVar 1) aNil))) cNil))))
def US:List D→FR:=JO 2 [false] JdP
theorem ok_is_way {f:Addr} {fd:FuncData} (F:Fun K "is_way" "is_way" Qi f fd) (z_tuple:mg "tuple" = none) (z_isinstance:mg "isinstance" = none) (z_all:mg "all" = none) (d_is_pair:Fd P w K mg base 2 "is_pair" ["thing"] [false] ZJ):FnOk P w K mg base (L2.CX P w) 3 f fd ["thing"] (spF K mg [false] US):=by
 refine' fn_ok (M:=_) (Vs:=_) F sc_is_way rfl ?hv fun cdv A outer s H E hr=>?hb
 case hb =>
  have hr:Room 2 (cxOf (L2.CX P w) P w K mg base ["thing", "pair"] "is_way" (defScope Qi) f cdv A outer s H E).A:=hr
  have hN:(cxOf (L2.CX P w) P w K mg base ["thing", "pair"] "is_way" (defScope Qi) f cdv A outer s H E).N.Nodup:=sc_is_way.nd
  have tk:Takes (cxOf (L2.CX P w) P w K mg base ["thing", "pair"] "is_way" (defScope Qi) f cdv A outer s H E) (fun cls d _ H=>E cls d H):=takes_of rfl rfl rfl rfl
  have hp:=passes_of (X:=cxOf (L2.CX P w) P w K mg base ["thing", "pair"] "is_way" (defScope Qi) f cdv A outer s H E) rfl
  have D_is_pair:=(d_is_pair).mono (k:=2) (by omega)
  refine'(Jm (Jy (Qy (SO.sb (Jp UF (by rfl) z_isinstance (by rfl) (Jg (Ja 0) (Jg (SO.sb (Zj (by rfl) z_tuple (by rfl))) Jt)))) (Jat (Jp (Jbo rfl) (by rfl) z_all (by rfl) (Jg (SO.sb (Qx (own:=[("pair", 1)]) [1] rfl hN (Yu (Ja 0)) (blkOk_by (N:=["thing", "pair"]) (sc:=defScope Qi) (own:=[("pair", 1)]) (by decide +kernel)) (fun _ _ _ _ _=>(Jl 1 hN)) (fun _ _ _ _ _=>Uy) (fun _ _ _ _ _=>(Jr D_is_pair hr takes0 (Ji (Ja 1) Jq))) rfl (by decide) (by decide) (by intro _;rfl))) Jt))))))
 case hv=>decide
abbrev ZS:Stmt:=top 2
theorem sc_ends_by:FnScope ["joining", "side"] ["joining", "side"] (defScope ZS):=⟨rfl,rfl,rfl,by decide +kernel,rfl,by decide +kernel,by decide +kernel⟩
def Jcy:CS:=(sSeq (sIf (cTt (c2 pEq (cVar 1) (cK (.int 1)))) (sRet (cTup (Jb (cImm (cIdx (cVar 0) (cK (.int 0)))) (Jb (cImm (cIdx (cVar 0) (cK (.int 1)))) cNil)))) sNil) (sRet (cTup (Jb (cImm (cIdx (cVar 0) (cK (.int 1)))) (Jb (cImm (cIdx (cVar 0) (cK (.int 0)))) cNil)))))
def Jay:List D→FR:=JO 2 [false,false] Jcy
theorem ok_ends_by {f:Addr} {fd:FuncData} (F:Fun K "ends_by" "ends_by" ZS f fd)  : FnOk P w K mg base (L2.CX P w) 1 f fd ["joining", "side"] (spF K mg [false,false] Jay):=by
 refine' fn_ok (M:=_) (Vs:=_) F sc_ends_by rfl ?hv fun cdv A outer s H E hr=>?hb
 case hb =>
  have hr:Room 0 (cxOf (L2.CX P w) P w K mg base ["joining", "side"] "ends_by" (defScope ZS) f cdv A outer s H E).A:=hr
  have hN:(cxOf (L2.CX P w) P w K mg base ["joining", "side"] "ends_by" (defScope ZS) f cdv A outer s H E).N.Nodup:=sc_ends_by.nd
  have tk:Takes (cxOf (L2.CX P w) P w K mg base ["joining", "side"] "ends_by" (defScope ZS) f cdv A outer s H E) (fun cls d _ H=>E cls d H):=takes_of rfl rfl rfl rfl
  have hp:=passes_of (X:=cxOf (L2.CX P w) P w K mg base ["joining", "side"] "ends_by" (defScope ZS) f cdv A outer s H E) rfl
  refine'(Jh (Yd (Jv (Uj hr) (Ja 1) (SO.sb Jd)) (Jm (Jy (JH (Jc (SB.imm (Jx hr (Ja 0) (SO.sb Jd))) (Jc (SB.imm (Jx hr (Ja 0) (SO.sb Jd))) Jj))))) JM) (Jm (Jy (JH (Jc (SB.imm (Jx hr (Ja 0) (SO.sb Jd))) (Jc (SB.imm (Jx hr (Ja 0) (SO.sb Jd))) Jj))))))
 case hv=>decide
abbrev QA:Stmt:=top 3
theorem sc_passed:FnScope ["joinings", "name", "pair", "number", "side", "begin", "end"] ["joinings", "name", "pair"] (defScope QA):=⟨rfl,rfl,rfl,by decide +kernel,rfl,by decide +kernel,by decide +kernel⟩
def JdM:CS:=(sSeq (sAsg (cGet 2) (JI 2 (Je (gSet 3) (Je (gSet 4) JL)))) (sSeq (sIf (Yq (cTt (Jbr pLeG pLtG (cK (.int 0)) (cVar 3) (cL pLen (Jb (cVar 0) cNil))))) (sRet (cK .non)) sNil) (sSeq (sAsg (Jo Jay (aRo (cIdx (cVar 0) (cVar 3)) (aRo (cVar 4) aNil))) (JI 2 (Je (gSet 5) (Je (gSet 6) JL)))) (sSeq (sIf (cTt (c2 pNe (cVar 5) (cVar 1))) (sRet (cK .non)) sNil) (sRet (cGet 6))))))
def JaQ:List D→FR:=JO 7 [false,false,false] JdM
theorem ok_passed {f:Addr} {fd:FuncData} (F:Fun K "passed" "passed" QA f fd) (z_len:mg "len" = none) (d_ends_by:Fd P w K mg base 1 "ends_by" ["joining", "side"] [false,false] Jay):FnOk P w K mg base (L2.CX P w) 2 f fd ["joinings", "name", "pair"] (spF K mg [false,false,false] JaQ):=by
 refine' fn_ok (M:=_) (Vs:=_) F sc_passed rfl ?hv fun cdv A outer s H E hr=>?hb
 case hb =>
  have hr:Room 1 (cxOf (L2.CX P w) P w K mg base ["joinings", "name", "pair", "number", "side", "begin", "end"] "passed" (defScope QA) f cdv A outer s H E).A:=hr
  have hN:(cxOf (L2.CX P w) P w K mg base ["joinings", "name", "pair", "number", "side", "begin", "end"] "passed" (defScope QA) f cdv A outer s H E).N.Nodup:=sc_passed.nd
  have tk:Takes (cxOf (L2.CX P w) P w K mg base ["joinings", "name", "pair", "number", "side", "begin", "end"] "passed" (defScope QA) f cdv A outer s H E) (fun cls d _ H=>E cls d H):=takes_of rfl rfl rfl rfl
  have hp:=passes_of (X:=cxOf (L2.CX P w) P w K mg base ["joinings", "name", "pair", "number", "side", "begin", "end"] "passed" (defScope QA) f cdv A outer s H E) rfl
  have D_ends_by:=(d_ends_by).mono (k:=1) (by omega)
  refine'(Jh (UW (JQ 2) (YX rfl (Js (Jl 3 hN) (Js (Jl 4 hN) Yo)))) (Jh (Yd (UC (JfZ (Jh4 hr) (JcJ hr) (SO.sb Jd) (Ja 3) (SO.sb (Jp Yn (by rfl) z_len (by rfl) (Jg (Ja 0) Jt))))) (Jm (Jy Qh)) JM) (Jh (UW (Jr D_ends_by hr tk (Ji (Jx hr (Ja 0) (Ja 3)) (Ji (Ja 4) Jq))) (YX rfl (Js (Jl 5 hN) (Js (Jl 6 hN) Yo)))) (Jh (Yd (Jv (ZL hr) (Ja 5) (Ja 1)) (Jm (Jy Qh)) JM) (Jm (Jy (JQ 6)))))))
 case hv=>decide
abbrev UQ:Stmt:=top 11
theorem sc_names_met:FnScope ["joinings", "name", "way", "met", "pair"] ["joinings", "name", "way"] (defScope UQ):=⟨rfl,rfl,rfl,by decide +kernel,rfl,by decide +kernel,by decide +kernel⟩
def Jak:CS:=(sIf (cTt (c2 ZY (cIdx (cVar 3) (c1 pNeg (cK (.int 1)))) (cK .non))) (ZE (cMut 3 kdL Uc (lVar 3) (Jb (Jo JaQ (aRo (cVar 0) (aRo (cIdx (cVar 3) (c1 pNeg (cK (.int 1)))) (aRo (cVar 4) aNil)))) cNil))) sNil)
def Jc4:CS:=(sSeq (sAsg (cLst (Jb (cGet 1) cNil)) (gSet 3)) (sSeq (sFor (JB (cVar 2)) (gSet 4) Jak) (sRet (cGet 3))))
def ZI:List D→FR:=JO 5 [false,false,false] Jc4
theorem ok_names_met {f:Addr} {fd:FuncData} (F:Fun K "names_met" "names_met" UQ f fd) (d_passed:Fd P w K mg base 2 "passed" ["joinings", "name", "pair"] [false,false,false] JaQ):FnOk P w K mg base (L2.CX P w) 3 f fd ["joinings", "name", "way"] (spF K mg [false,false,false] ZI):=by
 refine' fn_ok (M:=_) (Vs:=_) F sc_names_met rfl ?hv fun cdv A outer s H E hr=>?hb
 case hb =>
  have hr:Room 2 (cxOf (L2.CX P w) P w K mg base ["joinings", "name", "way", "met", "pair"] "names_met" (defScope UQ) f cdv A outer s H E).A:=hr
  have hN:(cxOf (L2.CX P w) P w K mg base ["joinings", "name", "way", "met", "pair"] "names_met" (defScope UQ) f cdv A outer s H E).N.Nodup:=sc_names_met.nd
  have tk:Takes (cxOf (L2.CX P w) P w K mg base ["joinings", "name", "way", "met", "pair"] "names_met" (defScope UQ) f cdv A outer s H E) (fun cls d _ H=>E cls d H):=takes_of rfl rfl rfl rfl
  have hp:=passes_of (X:=cxOf (L2.CX P w) P w K mg base ["joinings", "name", "way", "met", "pair"] "names_met" (defScope UQ) f cdv A outer s H E) rfl
  have D_passed:=(d_passed).mono (k:=2) (by omega)
  refine'(Jh (JC hN (Yk (Jc (JQ 1) Jj))) (Jh (ZD hp rfl (Yu (Ja 2)) (Jl 4 hN) (Jm (Yd (Jv JdT (Jx hr (Ja 3) (SO.sb (Zf (SO.sb Jd)))) (SO.sb Qh)) (Jm (Qa (SO.sb (Qu (Za 3) (Jc (Jr D_passed hr tk (Ji (Ja 0) (Ji (Jx hr (Ja 3) (SO.sb (Zf (SO.sb Jd)))) (Ji (Ja 4) Jq)))) Jj) (by decide) (by rfl) (by rfl) (by rfl) (by rfl) (by rfl))))) JM))) (Jm (Jy (JQ 3)))))
 case hv=>decide
abbrev UU:Stmt:=top 4
theorem sc_steps_of:FnScope ["joinings", "turn", "way", "number", "side"] ["joinings", "turn", "way"] (defScope UU):=⟨rfl,rfl,rfl,by decide +kernel,rfl,by decide +kernel,by decide +kernel⟩
def JdW:CS:=(sRet (Jo Zs (aRo (cVar 1) (aRo (cL pSum (Jb (cLc (JB (cVar 2)) [3,4] (JI 2 (Je (gSet 3) (Je (gSet 4) JL))) cYes (c2 QM (cVar 4) (cIdx (cIdx (cVar 0) (cVar 3)) (cK (.int 2))))) cNil)) aNil))))
def QI:List D→FR:=JO 5 [false,false,false] JdW
theorem ok_steps_of {f:Addr} {fd:FuncData} (F:Fun K "steps_of" "steps_of" UU f fd) (z_sum:mg "sum" = none) (d_counted:Fd P w K mg base 1 "counted" ["turn", "n"] [false,false] Zs):FnOk P w K mg base (L2.CX P w) 2 f fd ["joinings", "turn", "way"] (spF K mg [false,false,false] QI):=by
 refine' fn_ok (M:=_) (Vs:=_) F sc_steps_of rfl ?hv fun cdv A outer s H E hr=>?hb
 case hb =>
  have hr:Room 1 (cxOf (L2.CX P w) P w K mg base ["joinings", "turn", "way", "number", "side"] "steps_of" (defScope UU) f cdv A outer s H E).A:=hr
  have hN:(cxOf (L2.CX P w) P w K mg base ["joinings", "turn", "way", "number", "side"] "steps_of" (defScope UU) f cdv A outer s H E).N.Nodup:=sc_steps_of.nd
  have tk:Takes (cxOf (L2.CX P w) P w K mg base ["joinings", "turn", "way", "number", "side"] "steps_of" (defScope UU) f cdv A outer s H E) (fun cls d _ H=>E cls d H):=takes_of rfl rfl rfl rfl
  have hp:=passes_of (X:=cxOf (L2.CX P w) P w K mg base ["joinings", "turn", "way", "number", "side"] "steps_of" (defScope UU) f cdv A outer s H E) rfl
  have D_counted:=(d_counted).mono (k:=1) (by omega)
  refine'(Jm (Jy (Jr D_counted hr tk (Ji (Ja 1) (Ji (SO.sb (Jp (Jhe rfl) (by rfl) z_sum (by rfl) (Jg (SO.sb (Qx (own:=[("number", 3),("side", 4)]) [3,4] rfl hN (Yu (Ja 2)) (blkOk_by (N:=["joinings", "turn", "way", "number", "side"]) (sc:=defScope UU) (own:=[("number", 3),("side", 4)]) (by decide +kernel)) (fun _ _ _ _ _=>(YX rfl (Js (Jl 3 hN) (Js (Jl 4 hN) Yo)))) (fun _ _ _ _ _=>Uy) (fun _ _ _ _ _=>(JA Qq (Ja 4) (Jx hr (Jx hr (Ja 0) (Ja 3)) (SO.sb Jd)))) rfl (by decide) (by decide) (by intro _;rfl))) Jt))) Jq)))))
 case hv=>decide
abbrev Uk:Stmt:=top 16
theorem sc_shows_ring:FnScope ["names", "joinings", "turn", "name", "ring", "number", "side", "met"] ["names", "joinings", "turn", "name", "ring"] (defScope Uk):=⟨rfl,rfl,rfl,by decide +kernel,rfl,by decide +kernel,by decide +kernel⟩
def Jap:CS:=(sSeq (sIf (tcOr (Yq (cTt (Jo US (aRo (cVar 4) aNil)))) (tcOr (cTt (c2 pEq (cL pLen (Jb (cVar 4) cNil)) (cK (.int 0)))) (Yq (cTt (Jo Ye (aRo (cLc (JB (cVar 4)) [5,6] (JI 2 (Je (gSet 5) (Je (gSet 6) JL))) cYes (cGet 5)) aNil)))))) (sRet (cK (.bl false))) sNil) (sSeq (sAsg (Jo ZI (aRo (cVar 1) (aRo (cVar 3) (aRo (cVar 4) aNil)))) (gSet 7)) (sSeq (sIf (tcOr (cTt (c2 pInW (cK .non) (cVar 7))) (tcOr (cTt (c2 pNe (cIdx (cVar 7) (c1 pNeg (cK (.int 1)))) (cVar 3))) (Yq (cTt (Jo Ye (aRo (cSl (cVar 7) (pAt (cK (.int 1))) pNo) aNil)))))) (sRet (cK (.bl false))) sNil) (sRet (c2 pNe (Jo QI (aRo (cVar 1) (aRo (cVar 2) (aRo (cVar 4) aNil)))) (cK (.int 0)))))))
def UP:List D→FR:=JO 8 [false,false,false,false,false] Jap
theorem ok_shows_ring {f:Addr} {fd:FuncData} (F:Fun K "shows_ring" "shows_ring" Uk f fd) (z_len:mg "len" = none) (d_is_way:Fd P w K mg base 3 "is_way" ["thing"] [false] US) (d_are_unlike:Fd P w K mg base 1 "are_unlike" ["some"] [false] Ye) (d_names_met:Fd P w K mg base 3 "names_met" ["joinings", "name", "way"] [false,false,false] ZI) (d_steps_of:Fd P w K mg base 2 "steps_of" ["joinings", "turn", "way"] [false,false,false] QI):FnOk P w K mg base (L2.CX P w) 4 f fd ["names", "joinings", "turn", "name", "ring"] (spF K mg [false,false,false,false,false] UP):=by
 refine' fn_ok (M:=_) (Vs:=_) F sc_shows_ring rfl ?hv fun cdv A outer s H E hr=>?hb
 case hb =>
  have hr:Room 3 (cxOf (L2.CX P w) P w K mg base ["names", "joinings", "turn", "name", "ring", "number", "side", "met"] "shows_ring" (defScope Uk) f cdv A outer s H E).A:=hr
  have hN:(cxOf (L2.CX P w) P w K mg base ["names", "joinings", "turn", "name", "ring", "number", "side", "met"] "shows_ring" (defScope Uk) f cdv A outer s H E).N.Nodup:=sc_shows_ring.nd
  have tk:Takes (cxOf (L2.CX P w) P w K mg base ["names", "joinings", "turn", "name", "ring", "number", "side", "met"] "shows_ring" (defScope Uk) f cdv A outer s H E) (fun cls d _ H=>E cls d H):=takes_of rfl rfl rfl rfl
  have hp:=passes_of (X:=cxOf (L2.CX P w) P w K mg base ["names", "joinings", "turn", "name", "ring", "number", "side", "met"] "shows_ring" (defScope Uk) f cdv A outer s H E) rfl
  have D_is_way:=(d_is_way).mono (k:=3) (by omega)
  have D_are_unlike:=(d_are_unlike).mono (k:=3) (by omega)
  have D_names_met:=(d_names_met).mono (k:=3) (by omega)
  have D_steps_of:=(d_steps_of).mono (k:=3) (by omega)
  refine'(Jh (Yd (SW.st (Qe (UC (Uf (SO.sb (Jr D_is_way hr tk (Ji (Ja 4) Jq))))) (Qe (Jv (Uj hr) (SO.sb (Jp Yn (by rfl) z_len (by rfl) (Jg (Ja 4) Jt))) (SO.sb Jd)) (QT (UC (Uf (SO.sb (Jr D_are_unlike hr tk (Ji (SO.sb (Qx (own:=[("number", 5),("side", 6)]) [5,6] rfl hN (Yu (Ja 4)) (blkOk_by (N:=["names", "joinings", "turn", "name", "ring", "number", "side", "met"]) (sc:=defScope Uk) (own:=[("number", 5),("side", 6)]) (by decide +kernel)) (fun _ _ _ _ _=>(YX rfl (Js (Jl 5 hN) (Js (Jl 6 hN) Yo)))) (fun _ _ _ _ _=>Uy) (fun _ _ _ _ _=>(JQ 5)) rfl (by decide) (by decide) (by intro _;rfl))) Jq))))))))) (Jm (Jy Qm)) JM) (Jh (JC hN (Jr D_names_met hr tk (Ji (Ja 1) (Ji (Ja 3) (Ji (Ja 4) Jq))))) (Jh (Yd (SW.st (Qe (Jv (QH hr) (SO.sb Qh) (Ja 7)) (Qe (Jv (ZL hr) (Jx hr (Ja 7) (SO.sb (Zf (SO.sb Jd)))) (Ja 3)) (QT (UC (Uf (SO.sb (Jr D_are_unlike hr tk (Ji (SO.sb (Ug (Ja 7) (QK (SO.sb Jd)) Jab (by decide))) Jq))))))))) (Jm (Jy Qm)) JM) (Jm (Jy (YG (ZL hr) (SO.sb (Jr D_steps_of hr tk (Ji (Ja 1) (Ji (Ja 2) (Ji (Ja 4) Jq))))) (SO.sb Jd)))))))
 case hv=>decide
abbrev Zp:Stmt:=top 28
theorem sc__law_met:FnScope ["_law_joinings_here", "_law_name", "_law_way", "_law_met_here", "_law_number", "_law_side", "_law_begin", "_law_end"] ["_law_joinings_here", "_law_name", "_law_way"] (defScope Zp):=⟨rfl,rfl,rfl,by decide +kernel,rfl,by decide +kernel,by decide +kernel⟩
def QL:CS:=(sSeq (sIf (Yq (cTt (Jbr pLeG pLtG (cK (.int 0)) (cVar 4) (cL pLen (Jb (cVar 0) cNil))))) (sRet (cK .non)) sNil) (sSeq (sAsg (c2 QR (cSl (cIdx (cVar 0) (cVar 4)) pNo (pAt (cK (.int 2)))) (cVar 5)) (JI 2 (Je (gSet 6) (Je (gSet 7) JL)))) (sSeq (sIf (cTt (c2 pNe (cVar 6) (cIdx (cVar 3) (c1 pNeg (cK (.int 1)))))) (sRet (cK .non)) sNil) (ZE (cMut 3 kdL Uc (lVar 3) (Jb (cGet 7) cNil))))))
def JbV:CS:=(sSeq (sAsg (cLst (Jb (cGet 1) cNil)) (gSet 3)) (sSeq (sFor (JB (cVar 2)) (JI 2 (Je (gSet 4) (Je (gSet 5) JL))) QL) (sRet (cGet 3))))
def Jan:List D→FR:=JO 8 [false,false,false] JbV
theorem ok__law_met {f:Addr} {fd:FuncData} (F:Fun K "_law_met" "_law_met" Zp f fd) (z_len:mg "len" = none):FnOk P w K mg base (L2.CX P w) 1 f fd ["_law_joinings_here", "_law_name", "_law_way"] (spF K mg [false,false,false] Jan):=by
 refine' fn_ok (M:=_) (Vs:=_) F sc__law_met rfl ?hv fun cdv A outer s H E hr=>?hb
 case hb =>
  have hr:Room 0 (cxOf (L2.CX P w) P w K mg base ["_law_joinings_here", "_law_name", "_law_way", "_law_met_here", "_law_number", "_law_side", "_law_begin", "_law_end"] "_law_met" (defScope Zp) f cdv A outer s H E).A:=hr
  have hN:(cxOf (L2.CX P w) P w K mg base ["_law_joinings_here", "_law_name", "_law_way", "_law_met_here", "_law_number", "_law_side", "_law_begin", "_law_end"] "_law_met" (defScope Zp) f cdv A outer s H E).N.Nodup:=sc__law_met.nd
  have tk:Takes (cxOf (L2.CX P w) P w K mg base ["_law_joinings_here", "_law_name", "_law_way", "_law_met_here", "_law_number", "_law_side", "_law_begin", "_law_end"] "_law_met" (defScope Zp) f cdv A outer s H E) (fun cls d _ H=>E cls d H):=takes_of rfl rfl rfl rfl
  have hp:=passes_of (X:=cxOf (L2.CX P w) P w K mg base ["_law_joinings_here", "_law_name", "_law_way", "_law_met_here", "_law_number", "_law_side", "_law_begin", "_law_end"] "_law_met" (defScope Zp) f cdv A outer s H E) rfl
  refine'(Jh (JC hN (Yk (Jc (JQ 1) Jj))) (Jh (ZD hp rfl (Yu (Ja 2)) (YX rfl (Js (Jl 4 hN) (Js (Jl 5 hN) Yo))) (Jh (Yd (UC (JfZ (Jh4 hr) (JcJ hr) (SO.sb Jd) (Ja 4) (SO.sb (Jp Yn (by rfl) z_len (by rfl) (Jg (Ja 0) Jt))))) (Jm (Jy Qh)) JM) (Jh (UW (Jdg (SO.sb (Ug (Jx hr (Ja 0) (Ja 4)) Jab (QK (SO.sb Jd)) (by decide))) (Ja 5) (by decide)) (YX rfl (Js (Jl 6 hN) (Js (Jl 7 hN) Yo)))) (Jh (Yd (Jv (ZL hr) (Ja 6) (Jx hr (Ja 3) (SO.sb (Zf (SO.sb Jd))))) (Jm (Jy Qh)) JM) (Jm (Qa (SO.sb (Qu (Za 3) (Jc (JQ 7) Jj) (by decide) (by rfl) (by rfl) (by rfl) (by rfl) (by rfl))))))))) (Jm (Jy (JQ 3)))))
 case hv=>decide
abbrev YL:Stmt:=top 35
theorem sc__law_walked:FnScope ["_law_joinings_here", "_law_name", "_law_way", "_law_pair", "_law_one"] ["_law_joinings_here", "_law_name", "_law_way"] (defScope YL):=⟨rfl,rfl,rfl,by decide +kernel,rfl,by decide +kernel,by decide +kernel⟩
def UD:CS:=(sSeq (sIf (tcOr (Yq (cTt (cL pIsi (Jb (cVar 3) (Jb (cK (.ty "tuple")) cNil))))) (tcOr (cTt (c2 pNe (cL pLen (Jb (cVar 3) cNil)) (cK (.int 2)))) (Yq (cTt (cL pAll (Jb (cLc (JB (cVar 3)) [4] (gSet 4) cYes (Jo Yl (aRo (cVar 4) aNil))) cNil)))))) (sRet (cK .non)) sNil) (sIf (cTt (c2 Uu (cIdx (cVar 3) (cK (.int 1))) (cTup (Jb (cK (.int 1)) (Jb (c1 pNeg (cK (.int 1))) cNil))))) (sRet (cK .non)) sNil))
def Jah:CS:=(sSeq (sIf (Yq (cTt (cL pIsi (Jb (cVar 2) (Jb (cK (.ty "tuple")) cNil))))) (sRet (cK .non)) sNil) (sSeq (sFor (JB (cVar 2)) (gSet 3) UD) (sRet (Jo Jan (aRo (cVar 0) (aRo (cVar 1) (aRo (cVar 2) aNil)))))))
def Ux:List D→FR:=JO 5 [false,false,false] Jah
theorem ok__law_walked {f:Addr} {fd:FuncData} (F:Fun K "_law_walked" "_law_walked" YL f fd) (z_tuple:mg "tuple" = none) (z_isinstance:mg "isinstance" = none) (z_len:mg "len" = none) (z_all:mg "all" = none) (d__law_is_int:Fd P w K mg base 1 "_law_is_int" ["_law_thing"] [false] Yl) (d__law_met:Fd P w K mg base 1 "_law_met" ["_law_joinings_here", "_law_name", "_law_way"] [false,false,false] Jan):FnOk P w K mg base (L2.CX P w) 2 f fd ["_law_joinings_here", "_law_name", "_law_way"] (spF K mg [false,false,false] Ux):=by
 refine' fn_ok (M:=_) (Vs:=_) F sc__law_walked rfl ?hv fun cdv A outer s H E hr=>?hb
 case hb =>
  have hr:Room 1 (cxOf (L2.CX P w) P w K mg base ["_law_joinings_here", "_law_name", "_law_way", "_law_pair", "_law_one"] "_law_walked" (defScope YL) f cdv A outer s H E).A:=hr
  have hN:(cxOf (L2.CX P w) P w K mg base ["_law_joinings_here", "_law_name", "_law_way", "_law_pair", "_law_one"] "_law_walked" (defScope YL) f cdv A outer s H E).N.Nodup:=sc__law_walked.nd
  have tk:Takes (cxOf (L2.CX P w) P w K mg base ["_law_joinings_here", "_law_name", "_law_way", "_law_pair", "_law_one"] "_law_walked" (defScope YL) f cdv A outer s H E) (fun cls d _ H=>E cls d H):=takes_of rfl rfl rfl rfl
  have hp:=passes_of (X:=cxOf (L2.CX P w) P w K mg base ["_law_joinings_here", "_law_name", "_law_way", "_law_pair", "_law_one"] "_law_walked" (defScope YL) f cdv A outer s H E) rfl
  have D__law_is_int:=(d__law_is_int).mono (k:=1) (by omega)
  have D__law_met:=(d__law_met).mono (k:=1) (by omega)
  refine'(Jh (Yd (UC (Uf (SO.sb (Jp UF (by rfl) z_isinstance (by rfl) (Jg (Ja 2) (Jg (SO.sb (Zj (by rfl) z_tuple (by rfl))) Jt)))))) (Jm (Jy Qh)) JM) (Jh (ZD hp rfl (Yu (Ja 2)) (Jl 3 hN) (Jh (Yd (SW.st (Qe (UC (Uf (SO.sb (Jp UF (by rfl) z_isinstance (by rfl) (Jg (Ja 3) (Jg (SO.sb (Zj (by rfl) z_tuple (by rfl))) Jt)))))) (Qe (Jv (ZL hr) (SO.sb (Jp Yn (by rfl) z_len (by rfl) (Jg (Ja 3) Jt))) (SO.sb Jd)) (QT (UC (Uf (SO.sb (Jp (Jbo rfl) (by rfl) z_all (by rfl) (Jg (SO.sb (Qx (own:=[("_law_one", 4)]) [4] rfl hN (Yu (Ja 3)) (blkOk_by (N:=["_law_joinings_here", "_law_name", "_law_way", "_law_pair", "_law_one"]) (sc:=defScope YL) (own:=[("_law_one", 4)]) (by decide +kernel)) (fun _ _ _ _ _=>(Jl 4 hN)) (fun _ _ _ _ _=>Uy) (fun _ _ _ _ _=>(Jr D__law_is_int hr takes0 (Ji (Ja 4) Jq))) rfl (by decide) (by decide) (by intro _;rfl))) Jt))))))))) (Jm (Jy Qh)) JM) (Jm (Yd (Jv (QV hr) (Jx hr (Ja 3) (SO.sb Jd)) (SO.sb (JH (Jc Jd (Jc (Zf (SO.sb Jd)) Jj))))) (Jm (Jy Qh)) JM)))) (Jm (Jy (Jr D__law_met hr tk (Ji (Ja 0) (Ji (Ja 1) (Ji (Ja 2) Jq))))))))
 case hv=>decide
abbrev Yj:Stmt:=top 36
theorem sc__law_ring_due:FnScope ["_law_joinings_here", "_law_turn_here", "_law_name", "_law_ring", "_law_met_here", "_law_number", "_law_side"] ["_law_joinings_here", "_law_turn_here", "_law_name", "_law_ring"] (defScope Yj):=⟨rfl,rfl,rfl,by decide +kernel,rfl,by decide +kernel,by decide +kernel⟩
def QC:CS:=(sSeq (sAsg (Jo Ux (aRo (cVar 0) (aRo (cVar 2) (aRo (cVar 3) aNil)))) (gSet 4)) (sSeq (sIf (tcOr (cTt (c2 pIs (cVar 4) (cK .non))) (tcOr (cTt (c2 pLtG (cL pLen (Jb (cVar 4) cNil)) (cK (.int 2)))) (tcOr (cTt (c2 pNe (cIdx (cVar 4) (c1 pNeg (cK (.int 1)))) (cVar 2))) (cTt (c2 pNe (Zw (cSl (cVar 4) (pAt (cK (.int 1))) pNo)) (c2 pSub (cL pLen (Jb (cVar 4) cNil)) (cK (.int 1)))))))) (sRet (cK (.bl false))) sNil) (sSeq (sIf (cTt (c2 pNe (Zw (cLc (JB (cVar 3)) [5,6] (JI 2 (Je (gSet 5) (Je (gSet 6) JL))) cYes (cGet 5))) (cL pLen (Jb (cVar 3) cNil)))) (sRet (cK (.bl false))) sNil) (sRet (c2 pNe (Jo Ya (aRo (cVar 1) (aRo (cL pSum (Jb (cLc (JB (cVar 3)) [5,6] (JI 2 (Je (gSet 5) (Je (gSet 6) JL))) cYes (c2 QM (cVar 6) (cIdx (cIdx (cVar 0) (cVar 5)) (cK (.int 2))))) cNil)) aNil))) (cK (.int 0)))))))
def Uo:List D→FR:=JO 7 [false,false,false,false] QC
theorem ok__law_ring_due {f:Addr} {fd:FuncData} (F:Fun K "_law_ring_due" "_law_ring_due" Yj f fd) (z_len:mg "len" = none) (z_set:mg "set" = none) (z_sum:mg "sum" = none) (d__law_walked:Fd P w K mg base 2 "_law_walked" ["_law_joinings_here", "_law_name", "_law_way"] [false,false,false] Ux) (d__law_counted:Fd P w K mg base 1 "_law_counted" ["_law_turn_here", "_law_n"] [false,false] Ya):FnOk P w K mg base (L2.CX P w) 3 f fd ["_law_joinings_here", "_law_turn_here", "_law_name", "_law_ring"] (spF K mg [false,false,false,false] Uo):=by
 refine' fn_ok (M:=_) (Vs:=_) F sc__law_ring_due rfl ?hv fun cdv A outer s H E hr=>?hb
 case hb =>
  have hr:Room 2 (cxOf (L2.CX P w) P w K mg base ["_law_joinings_here", "_law_turn_here", "_law_name", "_law_ring", "_law_met_here", "_law_number", "_law_side"] "_law_ring_due" (defScope Yj) f cdv A outer s H E).A:=hr
  have hN:(cxOf (L2.CX P w) P w K mg base ["_law_joinings_here", "_law_turn_here", "_law_name", "_law_ring", "_law_met_here", "_law_number", "_law_side"] "_law_ring_due" (defScope Yj) f cdv A outer s H E).N.Nodup:=sc__law_ring_due.nd
  have tk:Takes (cxOf (L2.CX P w) P w K mg base ["_law_joinings_here", "_law_turn_here", "_law_name", "_law_ring", "_law_met_here", "_law_number", "_law_side"] "_law_ring_due" (defScope Yj) f cdv A outer s H E) (fun cls d _ H=>E cls d H):=takes_of rfl rfl rfl rfl
  have hp:=passes_of (X:=cxOf (L2.CX P w) P w K mg base ["_law_joinings_here", "_law_turn_here", "_law_name", "_law_ring", "_law_met_here", "_law_number", "_law_side"] "_law_ring_due" (defScope Yj) f cdv A outer s H E) rfl
  have D__law_walked:=(d__law_walked).mono (k:=2) (by omega)
  have D__law_counted:=(d__law_counted).mono (k:=2) (by omega)
  refine'(Jh (JC hN (Jr D__law_walked hr tk (Ji (Ja 0) (Ji (Ja 2) (Ji (Ja 3) Jq))))) (Jh (Yd (SW.st (Qe (Jv od_is (Ja 4) (SO.sb Qh)) (Qe (Jv (JcJ hr) (SO.sb (Jp Yn (by rfl) z_len (by rfl) (Jg (Ja 4) Jt))) (SO.sb Jd)) (Qe (Jv (ZL hr) (Jx hr (Ja 4) (SO.sb (Zf (SO.sb Jd)))) (Ja 2)) (QT (Jv (ZL hr) (SO.sb (JaY rfl (by rfl) z_len (by rfl) z_set (SO.sb (Ug (Ja 4) (QK (SO.sb Jd)) Jab (by decide))) (by rfl))) (SO.sb (JA Jax (SO.sb (Jp Yn (by rfl) z_len (by rfl) (Jg (Ja 4) Jt))) (SO.sb Jd))))))))) (Jm (Jy Qm)) JM) (Jh (Yd (Jv (ZL hr) (SO.sb (JaY rfl (by rfl) z_len (by rfl) z_set (SO.sb (Qx (own:=[("_law_number", 5),("_law_side", 6)]) [5,6] rfl hN (Yu (Ja 3)) (blkOk_by (N:=["_law_joinings_here", "_law_turn_here", "_law_name", "_law_ring", "_law_met_here", "_law_number", "_law_side"]) (sc:=defScope Yj) (own:=[("_law_number", 5),("_law_side", 6)]) (by decide +kernel)) (fun _ _ _ _ _=>(YX rfl (Js (Jl 5 hN) (Js (Jl 6 hN) Yo)))) (fun _ _ _ _ _=>Uy) (fun _ _ _ _ _=>(JQ 5)) rfl (by decide) (by decide) (by intro _;rfl))) (by rfl))) (SO.sb (Jp Yn (by rfl) z_len (by rfl) (Jg (Ja 3) Jt)))) (Jm (Jy Qm)) JM) (Jm (Jy (YG (ZL hr) (SO.sb (Jr D__law_counted hr tk (Ji (Ja 1) (Ji (SO.sb (Jp (Jhe rfl) (by rfl) z_sum (by rfl) (Jg (SO.sb (Qx (own:=[("_law_number", 5),("_law_side", 6)]) [5,6] rfl hN (Yu (Ja 3)) (blkOk_by (N:=["_law_joinings_here", "_law_turn_here", "_law_name", "_law_ring", "_law_met_here", "_law_number", "_law_side"]) (sc:=defScope Yj) (own:=[("_law_number", 5),("_law_side", 6)]) (by decide +kernel)) (fun _ _ _ _ _=>(YX rfl (Js (Jl 5 hN) (Js (Jl 6 hN) Yo)))) (fun _ _ _ _ _=>Uy) (fun _ _ _ _ _=>(JA Qq (Ja 6) (Jx hr (Jx hr (Ja 0) (Ja 5)) (SO.sb Jd)))) rfl (by decide) (by decide) (by intro _;rfl))) Jt))) Jq)))) (SO.sb Jd)))))))
 case hv=>decide
abbrev UL:Stmt:=top 17
theorem sc_shows_way:FnScope ["joinings", "one", "other", "way", "met"] ["joinings", "one", "other", "way"] (defScope UL):=⟨rfl,rfl,rfl,by decide +kernel,rfl,by decide +kernel,by decide +kernel⟩
def JaE:CS:=(sSeq (sIf (Yq (cTt (Jo US (aRo (cVar 3) aNil)))) (sRet (cK (.bl false))) sNil) (sSeq (sAsg (Jo ZI (aRo (cVar 0) (aRo (cVar 1) (aRo (cVar 3) aNil)))) (gSet 4)) (sRet (cAnd (c2 Uu (cK .non) (cVar 4)) (cAnd (c2 pEq (cIdx (cVar 4) (c1 pNeg (cK (.int 1)))) (cVar 2)) (Jo Ye (aRo (cVar 4) aNil)))))))
def YT:List D→FR:=JO 5 [false,false,false,false] JaE
theorem ok_shows_way {f:Addr} {fd:FuncData} (F:Fun K "shows_way" "shows_way" UL f fd) (d_is_way:Fd P w K mg base 3 "is_way" ["thing"] [false] US) (d_names_met:Fd P w K mg base 3 "names_met" ["joinings", "name", "way"] [false,false,false] ZI) (d_are_unlike:Fd P w K mg base 1 "are_unlike" ["some"] [false] Ye):FnOk P w K mg base (L2.CX P w) 4 f fd ["joinings", "one", "other", "way"] (spF K mg [false,false,false,false] YT):=by
 refine' fn_ok (M:=_) (Vs:=_) F sc_shows_way rfl ?hv fun cdv A outer s H E hr=>?hb
 case hb =>
  have hr:Room 3 (cxOf (L2.CX P w) P w K mg base ["joinings", "one", "other", "way", "met"] "shows_way" (defScope UL) f cdv A outer s H E).A:=hr
  have hN:(cxOf (L2.CX P w) P w K mg base ["joinings", "one", "other", "way", "met"] "shows_way" (defScope UL) f cdv A outer s H E).N.Nodup:=sc_shows_way.nd
  have tk:Takes (cxOf (L2.CX P w) P w K mg base ["joinings", "one", "other", "way", "met"] "shows_way" (defScope UL) f cdv A outer s H E) (fun cls d _ H=>E cls d H):=takes_of rfl rfl rfl rfl
  have hp:=passes_of (X:=cxOf (L2.CX P w) P w K mg base ["joinings", "one", "other", "way", "met"] "shows_way" (defScope UL) f cdv A outer s H E) rfl
  have D_is_way:=(d_is_way).mono (k:=3) (by omega)
  have D_names_met:=(d_names_met).mono (k:=3) (by omega)
  have D_are_unlike:=(d_are_unlike).mono (k:=3) (by omega)
  refine'(Jh (Yd (UC (Uf (SO.sb (Jr D_is_way hr tk (Ji (Ja 3) Jq))))) (Jm (Jy Qm)) JM) (Jh (JC hN (Jr D_names_met hr tk (Ji (Ja 0) (Ji (Ja 1) (Ji (Ja 3) Jq))))) (Jm (Jy (Qy (SO.sb (YG (QV hr) (SO.sb Qh) (Ja 4))) (Qy (SO.sb (YG (Uj hr) (Jx hr (Ja 4) (SO.sb (Zf (SO.sb Jd)))) (Ja 2))) (Jat (Jr D_are_unlike hr tk (Ji (Ja 4) Jq)))))))))
 case hv=>decide
abbrev YO:Stmt:=top 37
theorem sc__law_way_due:FnScope ["_law_joinings_here", "_law_one", "_law_other", "_law_way", "_law_met_here"] ["_law_joinings_here", "_law_one", "_law_other", "_law_way"] (defScope YO):=⟨rfl,rfl,rfl,by decide +kernel,rfl,by decide +kernel,by decide +kernel⟩
def QW:CS:=(sSeq (sAsg (Jo Ux (aRo (cVar 0) (aRo (cVar 1) (aRo (cVar 3) aNil)))) (gSet 4)) (sRet (cAnd (c2 ZY (cVar 4) (cK .non)) (cAnd (c2 pEq (cIdx (cVar 4) (c1 pNeg (cK (.int 1)))) (cVar 2)) (c2 pEq (Zw (cVar 4)) (cL pLen (Jb (cVar 4) cNil)))))))
def ZN:List D→FR:=JO 5 [false,false,false,false] QW
theorem ok__law_way_due {f:Addr} {fd:FuncData} (F:Fun K "_law_way_due" "_law_way_due" YO f fd) (z_len:mg "len" = none) (z_set:mg "set" = none) (d__law_walked:Fd P w K mg base 2 "_law_walked" ["_law_joinings_here", "_law_name", "_law_way"] [false,false,false] Ux):FnOk P w K mg base (L2.CX P w) 3 f fd ["_law_joinings_here", "_law_one", "_law_other", "_law_way"] (spF K mg [false,false,false,false] ZN):=by
 refine' fn_ok (M:=_) (Vs:=_) F sc__law_way_due rfl ?hv fun cdv A outer s H E hr=>?hb
 case hb =>
  have hr:Room 2 (cxOf (L2.CX P w) P w K mg base ["_law_joinings_here", "_law_one", "_law_other", "_law_way", "_law_met_here"] "_law_way_due" (defScope YO) f cdv A outer s H E).A:=hr
  have hN:(cxOf (L2.CX P w) P w K mg base ["_law_joinings_here", "_law_one", "_law_other", "_law_way", "_law_met_here"] "_law_way_due" (defScope YO) f cdv A outer s H E).N.Nodup:=sc__law_way_due.nd
  have tk:Takes (cxOf (L2.CX P w) P w K mg base ["_law_joinings_here", "_law_one", "_law_other", "_law_way", "_law_met_here"] "_law_way_due" (defScope YO) f cdv A outer s H E) (fun cls d _ H=>E cls d H):=takes_of rfl rfl rfl rfl
  have hp:=passes_of (X:=cxOf (L2.CX P w) P w K mg base ["_law_joinings_here", "_law_one", "_law_other", "_law_way", "_law_met_here"] "_law_way_due" (defScope YO) f cdv A outer s H E) rfl
  have D__law_walked:=(d__law_walked).mono (k:=2) (by omega)
  refine'(Jh (JC hN (Jr D__law_walked hr tk (Ji (Ja 0) (Ji (Ja 1) (Ji (Ja 3) Jq))))) (Jm (Jy (Qy (SO.sb (YG JdT (Ja 4) (SO.sb Qh))) (Qy (SO.sb (YG (Uj hr) (Jx hr (Ja 4) (SO.sb (Zf (SO.sb Jd)))) (Ja 2))) (Jat (YG (Uj hr) (SO.sb (JaY rfl (by rfl) z_len (by rfl) z_set (Ja 4) (by rfl))) (SO.sb (Jp Yn (by rfl) z_len (by rfl) (Jg (Ja 4) Jt))))))))))
 case hv=>decide
abbrev Yy:Stmt:=top 18
theorem sc_shows_parted:FnScope ["names", "joinings", "one", "other", "some", "begin", "end", "step"] ["names", "joinings", "one", "other", "some"] (defScope Yy):=⟨rfl,rfl,rfl,by decide +kernel,rfl,by decide +kernel,by decide +kernel⟩
def Jav:CS:=(sSeq (sIf (tcOr (Yq (cTt (Jo Yx (aRo (cVar 0) (aRo (cVar 4) aNil))))) (tcOr (cTt (c2 Uu (cVar 2) (cVar 4))) (cTt (c2 pInW (cVar 3) (cVar 4))))) (sRet (cK (.bl false))) sNil) (sRet (cL pAll (Jb (cLc (JB (cVar 1)) [5,6,7] (JI 3 (Je (gSet 5) (Je (gSet 6) (Je (gSet 7) JL)))) cYes (c2 pEq (c2 pInW (cVar 5) (cVar 4)) (c2 pInW (cVar 6) (cVar 4)))) cNil))))
def Yi:List D→FR:=JO 8 [false,false,false,false,false] Jav
theorem ok_shows_parted {f:Addr} {fd:FuncData} (F:Fun K "shows_parted" "shows_parted" Yy f fd) (z_all:mg "all" = none) (d_are_some_of:Fd P w K mg base 2 "are_some_of" ["names", "thing"] [false,false] Yx):FnOk P w K mg base (L2.CX P w) 3 f fd ["names", "joinings", "one", "other", "some"] (spF K mg [false,false,false,false,false] Yi):=by
 refine' fn_ok (M:=_) (Vs:=_) F sc_shows_parted rfl ?hv fun cdv A outer s H E hr=>?hb
 case hb =>
  have hr:Room 2 (cxOf (L2.CX P w) P w K mg base ["names", "joinings", "one", "other", "some", "begin", "end", "step"] "shows_parted" (defScope Yy) f cdv A outer s H E).A:=hr
  have hN:(cxOf (L2.CX P w) P w K mg base ["names", "joinings", "one", "other", "some", "begin", "end", "step"] "shows_parted" (defScope Yy) f cdv A outer s H E).N.Nodup:=sc_shows_parted.nd
  have tk:Takes (cxOf (L2.CX P w) P w K mg base ["names", "joinings", "one", "other", "some", "begin", "end", "step"] "shows_parted" (defScope Yy) f cdv A outer s H E) (fun cls d _ H=>E cls d H):=takes_of rfl rfl rfl rfl
  have hp:=passes_of (X:=cxOf (L2.CX P w) P w K mg base ["names", "joinings", "one", "other", "some", "begin", "end", "step"] "shows_parted" (defScope Yy) f cdv A outer s H E) rfl
  have D_are_some_of:=(d_are_some_of).mono (k:=2) (by omega)
  refine'(Jh (Yd (SW.st (Qe (UC (Uf (SO.sb (Jr D_are_some_of hr tk (Ji (Ja 0) (Ji (Ja 4) Jq)))))) (Qe (Jv (QV hr) (Ja 2) (Ja 4)) (QT (Jv (QH hr) (Ja 3) (Ja 4)))))) (Jm (Jy Qm)) JM) (Jm (Jy (Jp (Jbo rfl) (by rfl) z_all (by rfl) (Jg (SO.sb (Qx (own:=[("begin", 5),("end", 6),("step", 7)]) [5,6,7] rfl hN (Yu (Ja 1)) (blkOk_by (N:=["names", "joinings", "one", "other", "some", "begin", "end", "step"]) (sc:=defScope Yy) (own:=[("begin", 5),("end", 6),("step", 7)]) (by decide +kernel)) (fun _ _ _ _ _=>(YX rfl (Js (Jl 5 hN) (Js (Jl 6 hN) (Js (Jl 7 hN) Yo))))) (fun _ _ _ _ _=>Uy) (fun _ _ _ _ _=>(YG (Uj hr) (SO.sb (YG (QH hr) (Ja 5) (Ja 4))) (SO.sb (YG (QH hr) (Ja 6) (Ja 4))))) rfl (by decide) (by decide) (by intro _;rfl))) Jt)))))
 case hv=>decide
abbrev JR:Stmt:=top 38
theorem sc__law_parted_due:FnScope ["_law_names_here", "_law_joinings_here", "_law_one", "_law_other", "_law_some", "_law_name", "_law_begin", "_law_end", "_law_step_here"] ["_law_names_here", "_law_joinings_here", "_law_one", "_law_other", "_law_some"] (defScope JR):=⟨rfl,rfl,rfl,by decide +kernel,rfl,by decide +kernel,by decide +kernel⟩
def Qg:CS:=(sSeq (sIf (tcOr (Yq (cTt (cL pIsi (Jb (cVar 4) (Jb (cTup (Jb (cK (.ty "list")) (Jb (cK (.ty "tuple")) cNil))) cNil))))) (Yq (cTt (cL pAll (Jb (cLc (JB (cVar 4)) [5] (gSet 5) cYes (cAnd (cL pIsi (Jb (cVar 5) (Jb (cK (.ty "str")) cNil))) (c2 pInW (cVar 5) (cVar 0)))) cNil))))) (sRet (cK (.bl false))) sNil) (sSeq (sIf (tcOr (cTt (c2 pNe (Zw (cVar 4)) (cL pLen (Jb (cVar 4) cNil)))) (tcOr (cTt (c2 Uu (cVar 2) (cVar 4))) (cTt (c2 pInW (cVar 3) (cVar 4))))) (sRet (cK (.bl false))) sNil) (sRet (cNot (cL pAny (Jb (cLc (JB (cVar 1)) [6,7,8] (JI 3 (Je (gSet 6) (Je (gSet 7) (Je (gSet 8) JL)))) cYes (c2 pNe (c2 pInW (cVar 6) (cVar 4)) (c2 pInW (cVar 7) (cVar 4)))) cNil))))))
def UV:List D→FR:=JO 9 [false,false,false,false,false] Qg
theorem ok__law_parted_due {f:Addr} {fd:FuncData} (F:Fun K "_law_parted_due" "_law_parted_due" JR f fd) (z_list:mg "list" = none) (z_tuple:mg "tuple" = none) (z_isinstance:mg "isinstance" = none) (z_str:mg "str" = none) (z_all:mg "all" = none) (z_len:mg "len" = none) (z_set:mg "set" = none) (z_any:mg "any" = none):FnOk P w K mg base (L2.CX P w) 1 f fd ["_law_names_here", "_law_joinings_here", "_law_one", "_law_other", "_law_some"] (spF K mg [false,false,false,false,false] UV):=by
 refine' fn_ok (M:=_) (Vs:=_) F sc__law_parted_due rfl ?hv fun cdv A outer s H E hr=>?hb
 case hb =>
  have hr:Room 0 (cxOf (L2.CX P w) P w K mg base ["_law_names_here", "_law_joinings_here", "_law_one", "_law_other", "_law_some", "_law_name", "_law_begin", "_law_end", "_law_step_here"] "_law_parted_due" (defScope JR) f cdv A outer s H E).A:=hr
  have hN:(cxOf (L2.CX P w) P w K mg base ["_law_names_here", "_law_joinings_here", "_law_one", "_law_other", "_law_some", "_law_name", "_law_begin", "_law_end", "_law_step_here"] "_law_parted_due" (defScope JR) f cdv A outer s H E).N.Nodup:=sc__law_parted_due.nd
  have tk:Takes (cxOf (L2.CX P w) P w K mg base ["_law_names_here", "_law_joinings_here", "_law_one", "_law_other", "_law_some", "_law_name", "_law_begin", "_law_end", "_law_step_here"] "_law_parted_due" (defScope JR) f cdv A outer s H E) (fun cls d _ H=>E cls d H):=takes_of rfl rfl rfl rfl
  have hp:=passes_of (X:=cxOf (L2.CX P w) P w K mg base ["_law_names_here", "_law_joinings_here", "_law_one", "_law_other", "_law_some", "_law_name", "_law_begin", "_law_end", "_law_step_here"] "_law_parted_due" (defScope JR) f cdv A outer s H E) rfl
  refine'(Jh (Yd (SW.st (Qe (UC (Uf (SO.sb (Jp UF (by rfl) z_isinstance (by rfl) (Jg (Ja 4) (Jg (SO.sb (JH (Jc (Zj (by rfl) z_list (by rfl)) (Jc (Zj (by rfl) z_tuple (by rfl)) Jj)))) Jt)))))) (QT (UC (Uf (SO.sb (Jp (Jbo rfl) (by rfl) z_all (by rfl) (Jg (SO.sb (Qx (own:=[("_law_name", 5)]) [5] rfl hN (Yu (Ja 4)) (blkOk_by (N:=["_law_names_here", "_law_joinings_here", "_law_one", "_law_other", "_law_some", "_law_name", "_law_begin", "_law_end", "_law_step_here"]) (sc:=defScope JR) (own:=[("_law_name", 5)]) (by decide +kernel)) (fun _ _ _ _ _=>(Jl 5 hN)) (fun _ _ _ _ _=>Uy) (fun _ _ _ _ _=>(Qy (SO.sb (Jp UF (by rfl) z_isinstance (by rfl) (Jg (Ja 5) (Jg (SO.sb (Zj (by rfl) z_str (by rfl))) Jt)))) (Jat (YG (QH hr) (Ja 5) (Ja 0))))) rfl (by decide) (by decide) (by intro _;rfl))) Jt)))))))) (Jm (Jy Qm)) JM) (Jh (Yd (SW.st (Qe (Jv (ZL hr) (SO.sb (JaY rfl (by rfl) z_len (by rfl) z_set (Ja 4) (by rfl))) (SO.sb (Jp Yn (by rfl) z_len (by rfl) (Jg (Ja 4) Jt)))) (Qe (Jv (QV hr) (Ja 2) (Ja 4)) (QT (Jv (QH hr) (Ja 3) (Ja 4)))))) (Jm (Jy Qm)) JM) (Jm (Jy (Jga (SO.sb (Jp (od_any rfl) (by rfl) z_any (by rfl) (Jg (SO.sb (Qx (own:=[("_law_begin", 6),("_law_end", 7),("_law_step_here", 8)]) [6,7,8] rfl hN (Yu (Ja 1)) (blkOk_by (N:=["_law_names_here", "_law_joinings_here", "_law_one", "_law_other", "_law_some", "_law_name", "_law_begin", "_law_end", "_law_step_here"]) (sc:=defScope JR) (own:=[("_law_begin", 6),("_law_end", 7),("_law_step_here", 8)]) (by decide +kernel)) (fun _ _ _ _ _=>(YX rfl (Js (Jl 6 hN) (Js (Jl 7 hN) (Js (Jl 8 hN) Yo))))) (fun _ _ _ _ _=>Uy) (fun _ _ _ _ _=>(YG (ZL hr) (SO.sb (YG (QH hr) (Ja 6) (Ja 4))) (SO.sb (YG (QH hr) (Ja 7) (Ja 4))))) rfl (by decide) (by decide) (by intro _;rfl))) Jt))))))))
 case hv=>decide
abbrev UM:Stmt:=top 41
theorem sc__law_said:FnScope ["_law_which", "_law_world", "_law_ends", "_law_paper", "_law_names_here", "_law_joinings_here", "_law_turn_here", "_law_one", "_law_other"] ["_law_which", "_law_world", "_law_ends", "_law_paper"] (defScope UM):=⟨rfl,rfl,rfl,by decide +kernel,rfl,by decide +kernel,by decide +kernel⟩
def QJ:CS:=(sSeq (sAsg (cGet 1) (JI 3 (Je (gSet 4) (Je (gSet 5) (Je (gSet 6) JL))))) (sSeq (sAsg (cGet 2) (JI 2 (Je (gSet 7) (Je (gSet 8) JL)))) (sSeq (sIf (cTt (c2 pEq (cVar 0) (cK (.int 0)))) (sRet (cTup (Jb (Jo ZA (aRo (cVar 4) (aRo (cVar 5) (aRo (cVar 6) (aRo (cVar 3) aNil))))) (Jb (Jo UE (aRo (cVar 4) (aRo (cVar 5) (aRo (cVar 6) (aRo (JG (cVar 3)) aNil))))) cNil)))) sNil) (sSeq (sIf (cTt (c2 pEq (cVar 0) (cK (.int 1)))) (sRet (cTup (Jb (Jo UP (aRo (cVar 4) (aRo (cVar 5) (aRo (cVar 6) (aRo (cVar 7) (aRo (JG (cVar 3)) aNil)))))) (Jb (Jo Uo (aRo (cVar 5) (aRo (cVar 6) (aRo (cVar 7) (aRo (JG (cVar 3)) aNil))))) cNil)))) sNil) (sSeq (sIf (cTt (c2 pEq (cVar 0) (cK (.int 2)))) (sRet (cTup (Jb (Jo YT (aRo (cVar 5) (aRo (cVar 7) (aRo (cVar 8) (aRo (JG (cVar 3)) aNil))))) (Jb (Jo ZN (aRo (cVar 5) (aRo (cVar 7) (aRo (cVar 8) (aRo (JG (cVar 3)) aNil))))) cNil)))) sNil) (sRet (cTup (Jb (Jo Yi (aRo (cVar 4) (aRo (cVar 5) (aRo (cVar 7) (aRo (cVar 8) (aRo (JG (cVar 3)) aNil)))))) (Jb (Jo UV (aRo (cVar 4) (aRo (cVar 5) (aRo (cVar 7) (aRo (cVar 8) (aRo (JG (cVar 3)) aNil)))))) cNil)))))))))
def UG:List D→FR:=JO 9 [false,false,false,false] QJ
theorem ok__law_said {f:Addr} {fd:FuncData} (F:Fun K "_law_said" "_law_said" UM f fd) (d_shows_numbers:Fd P w K mg base 3 "shows_numbers" ["names", "joinings", "turn", "rows"] [false,false,false,false] ZA) (d__law_numbers_due:Fd P w K mg base 2 "_law_numbers_due" ["_law_names_here", "_law_joinings_here", "_law_turn_here", "_law_rows"] [false,false,false,false] UE) (d_shows_ring:Fd P w K mg base 4 "shows_ring" ["names", "joinings", "turn", "name", "ring"] [false,false,false,false,false] UP) (d__law_ring_due:Fd P w K mg base 3 "_law_ring_due" ["_law_joinings_here", "_law_turn_here", "_law_name", "_law_ring"] [false,false,false,false] Uo) (d_shows_way:Fd P w K mg base 4 "shows_way" ["joinings", "one", "other", "way"] [false,false,false,false] YT) (d__law_way_due:Fd P w K mg base 3 "_law_way_due" ["_law_joinings_here", "_law_one", "_law_other", "_law_way"] [false,false,false,false] ZN) (d_shows_parted:Fd P w K mg base 3 "shows_parted" ["names", "joinings", "one", "other", "some"] [false,false,false,false,false] Yi) (d__law_parted_due:Fd P w K mg base 1 "_law_parted_due" ["_law_names_here", "_law_joinings_here", "_law_one", "_law_other", "_law_some"] [false,false,false,false,false] UV):FnOk P w K mg base (L2.CX P w) 5 f fd ["_law_which", "_law_world", "_law_ends", "_law_paper"] (spF K mg [false,false,false,false] UG):=by
 refine' fn_ok (M:=_) (Vs:=_) F sc__law_said rfl ?hv fun cdv A outer s H E hr=>?hb
 case hb =>
  have hr:Room 4 (cxOf (L2.CX P w) P w K mg base ["_law_which", "_law_world", "_law_ends", "_law_paper", "_law_names_here", "_law_joinings_here", "_law_turn_here", "_law_one", "_law_other"] "_law_said" (defScope UM) f cdv A outer s H E).A:=hr
  have hN:(cxOf (L2.CX P w) P w K mg base ["_law_which", "_law_world", "_law_ends", "_law_paper", "_law_names_here", "_law_joinings_here", "_law_turn_here", "_law_one", "_law_other"] "_law_said" (defScope UM) f cdv A outer s H E).N.Nodup:=sc__law_said.nd
  have tk:Takes (cxOf (L2.CX P w) P w K mg base ["_law_which", "_law_world", "_law_ends", "_law_paper", "_law_names_here", "_law_joinings_here", "_law_turn_here", "_law_one", "_law_other"] "_law_said" (defScope UM) f cdv A outer s H E) (fun cls d _ H=>E cls d H):=takes_of rfl rfl rfl rfl
  have hp:=passes_of (X:=cxOf (L2.CX P w) P w K mg base ["_law_which", "_law_world", "_law_ends", "_law_paper", "_law_names_here", "_law_joinings_here", "_law_turn_here", "_law_one", "_law_other"] "_law_said" (defScope UM) f cdv A outer s H E) rfl
  have D_shows_numbers:=(d_shows_numbers).mono (k:=4) (by omega)
  have D__law_numbers_due:=(d__law_numbers_due).mono (k:=4) (by omega)
  have D_shows_ring:=(d_shows_ring).mono (k:=4) (by omega)
  have D__law_ring_due:=(d__law_ring_due).mono (k:=4) (by omega)
  have D_shows_way:=(d_shows_way).mono (k:=4) (by omega)
  have D__law_way_due:=(d__law_way_due).mono (k:=4) (by omega)
  have D_shows_parted:=(d_shows_parted).mono (k:=4) (by omega)
  have D__law_parted_due:=(d__law_parted_due).mono (k:=4) (by omega)
  refine'(Jh (UW (JQ 1) (YX rfl (Js (Jl 4 hN) (Js (Jl 5 hN) (Js (Jl 6 hN) Yo))))) (Jh (UW (JQ 2) (YX rfl (Js (Jl 7 hN) (Js (Jl 8 hN) Yo)))) (Jh (Yd (Jv (Uj hr) (Ja 0) (SO.sb Jd)) (Jm (Jy (JH (Jc (Jr D_shows_numbers hr tk (Ji (Ja 4) (Ji (Ja 5) (Ji (Ja 6) (Ji (Ja 3) Jq))))) (Jc (Jr D__law_numbers_due hr tk (Ji (Ja 4) (Ji (Ja 5) (Ji (Ja 6) (Ji (JX (Ja 3)) Jq))))) Jj))))) JM) (Jh (Yd (Jv (Uj hr) (Ja 0) (SO.sb Jd)) (Jm (Jy (JH (Jc (Jr D_shows_ring hr tk (Ji (Ja 4) (Ji (Ja 5) (Ji (Ja 6) (Ji (Ja 7) (Ji (JX (Ja 3)) Jq)))))) (Jc (Jr D__law_ring_due hr tk (Ji (Ja 5) (Ji (Ja 6) (Ji (Ja 7) (Ji (JX (Ja 3)) Jq))))) Jj))))) JM) (Jh (Yd (Jv (Uj hr) (Ja 0) (SO.sb Jd)) (Jm (Jy (JH (Jc (Jr D_shows_way hr tk (Ji (Ja 5) (Ji (Ja 7) (Ji (Ja 8) (Ji (JX (Ja 3)) Jq))))) (Jc (Jr D__law_way_due hr tk (Ji (Ja 5) (Ji (Ja 7) (Ji (Ja 8) (Ji (JX (Ja 3)) Jq))))) Jj))))) JM) (Jm (Jy (JH (Jc (Jr D_shows_parted hr tk (Ji (Ja 4) (Ji (Ja 5) (Ji (Ja 7) (Ji (Ja 8) (Ji (JX (Ja 3)) Jq)))))) (Jc (Jr D__law_parted_due hr tk (Ji (Ja 4) (Ji (Ja 5) (Ji (Ja 7) (Ji (Ja 8) (Ji (JX (Ja 3)) Jq)))))) Jj))))))))))
 case hv=>decide
abbrev Uv:Stmt:=top 42
theorem sc__law_says:FnScope ["_law_which", "_law_world", "_law_ends", "_law_paper", "_law_kept", "_law_found", "_law_due"] ["_law_which", "_law_world", "_law_ends", "_law_paper"] (defScope Uv):=⟨rfl,rfl,rfl,by decide +kernel,rfl,by decide +kernel,by decide +kernel⟩
def JcW:CS:=(sSeq (sAsg (cL Jfy (Jb (cLst (Jb (cImm (cVar 1)) (Jb (cImm (cVar 2)) (Jb (cImm (JG (cVar 3))) cNil)))) cNil)) (gSet 4)) (sSeq (sAsg (Jo UG (aRo (cVar 0) (aRo (cVar 1) (aRo (cVar 2) (aRo (cVar 3) aNil))))) (JI 2 (Je (gSet 5) (Je (gSet 6) JL)))) (sRet (cAnd (cL pIsi (Jb (cVar 5) (Jb (cK (.ty "bool")) cNil))) (cAnd (c2 pEq (cVar 5) (cVar 6)) (c2 pEq (cL Jfy (Jb (cLst (Jb (cImm (cVar 1)) (Jb (cImm (cVar 2)) (Jb (cImm (JG (cVar 3))) cNil)))) cNil)) (cVar 4)))))))
def Qs:List D→FR:=JO 7 [false,false,false,false] JcW
theorem ok__law_says {f:Addr} {fd:FuncData} (F:Fun K "_law_says" "_law_says" Uv f fd) (z_str:mg "str" = none) (z_bool:mg "bool" = none) (z_isinstance:mg "isinstance" = none) (d__law_said:Fd P w K mg base 5 "_law_said" ["_law_which", "_law_world", "_law_ends", "_law_paper"] [false,false,false,false] UG):FnG P w K mg base 6 f fd ["_law_which", "_law_world", "_law_ends", "_law_paper"] (spF K mg [false,false,false,false] Qs):=by
 refine' Jh1 (M:=_) (Vs:=_) F sc__law_says rfl ?hv fun cdv A outer s H E hr hG=>?hb
 case hb =>
  have hr:Room 5 (cxOf (L2.CX P w) P w K mg base ["_law_which", "_law_world", "_law_ends", "_law_paper", "_law_kept", "_law_found", "_law_due"] "_law_says" (defScope Uv) f cdv A outer s H E).A:=hr
  have hG:(cxOf (L2.CX P w) P w K mg base ["_law_which", "_law_world", "_law_ends", "_law_paper", "_law_kept", "_law_found", "_law_due"] "_law_says" (defScope Uv) f cdv A outer s H E).A.guards=some []:=hG
  have hN:(cxOf (L2.CX P w) P w K mg base ["_law_which", "_law_world", "_law_ends", "_law_paper", "_law_kept", "_law_found", "_law_due"] "_law_says" (defScope Uv) f cdv A outer s H E).N.Nodup:=sc__law_says.nd
  have tk:Takes (cxOf (L2.CX P w) P w K mg base ["_law_which", "_law_world", "_law_ends", "_law_paper", "_law_kept", "_law_found", "_law_due"] "_law_says" (defScope Uv) f cdv A outer s H E) (fun cls d _ H=>E cls d H):=takes_of rfl rfl rfl rfl
  have hp:=passes_of (X:=cxOf (L2.CX P w) P w K mg base ["_law_which", "_law_world", "_law_ends", "_law_paper", "_law_kept", "_law_found", "_law_due"] "_law_says" (defScope Uv) f cdv A outer s H E) rfl
  have D__law_said:=(d__law_said).mono (k:=5) (by omega)
  refine'(Jh (JC hN (YH (JgM hr hG) (by rfl) z_str (by rfl) (Jg (SO.sb (Yk (Jc (SB.imm (Ja 1)) (Jc (SB.imm (Ja 2)) (Jc (SB.imm (JX (Ja 3))) Jj))))) Jt))) (Jh (UW (Jr D__law_said hr tk (Ji (Ja 0) (Ji (Ja 1) (Ji (Ja 2) (Ji (Ja 3) Jq))))) (YX rfl (Js (Jl 5 hN) (Js (Jl 6 hN) Yo)))) (Jm (Jy (Qy (SO.sb (Jp UF (by rfl) z_isinstance (by rfl) (Jg (Ja 5) (Jg (SO.sb (Zj (by rfl) z_bool (by rfl))) Jt)))) (Qy (SO.sb (YG (Uj hr) (Ja 5) (Ja 6))) (Jat (YG (Uj hr) (SO.sb (YH (JgM hr hG) (by rfl) z_str (by rfl) (Jg (SO.sb (Yk (Jc (SB.imm (Ja 1)) (Jc (SB.imm (Ja 2)) (Jc (SB.imm (JX (Ja 3))) Jj))))) Jt))) (Ja 4)))))))))
 case hv=>decide
abbrev Zo:Stmt:=top 29
theorem sc__law_odd:FnScope ["_law_tape_here", "_law_some"] ["_law_tape_here"] (defScope Zo):=⟨rfl,rfl,rfl,by decide +kernel,rfl,by decide +kernel,by decide +kernel⟩
def Jeh:CS:=(sSeq (sAsg (cFix (cLst (Jb (cK .non) (Jb (cK (.bl true)) (Jb (cK (.bl false)) (Jb (cK (.int 0)) (Jb (c1 pNeg (cK (.int 1))) (Jb (cK (.int 7)) (Jb (cK (.str "")) (Jb (cK (.str "a")) (Jb (cK (.str "nobody")) (Jb (Jdy cNil) (Jb (cLst cNil) (Jb (cTup (Jb (cK (.int 0)) cNil)) (Jb (cTup (Jb (cK (.int 0)) (Jb (cK (.int 1)) cNil))) (Jb (cTup (Jb (cK (.int 0)) (Jb (cK (.int 2)) cNil))) (Jb (cTup (Jb (cK (.bl true)) (Jb (cK (.int 1)) cNil))) (Jb (cTup (Jb (cK (.int 0)) (Jb (cK (.bl true)) cNil))) (Jb (cLst (Jb (cK (.int 0)) (Jb (cK (.int 1)) cNil))) cNil))))))))))))))))))) (gSet 1)) (sSeq (sAsg (c2 pAdd (cVar 1) (cFix (cLst (Jb (cTup (Jb (cK (.int 0)) (Jb (cK (.int 1)) (Jb (cK (.int 1)) cNil)))) (Jb (cTup (Jb (cK (.str "a")) (Jb (cK (.int 0)) cNil))) (Jb (cLst (Jb (cK (.str "a")) (Jb (cK (.int 0)) cNil))) (Jb (Jdy (Jb (cTup (Jb (cK (.str "a")) (Jb (cK (.int 0)) cNil))) cNil)) (Jb (cLst (Jb (cLst cNil) cNil)) (Jb (cTup (Jb (cK (.str "a")) (Jb (cK .non) cNil))) (Jb (cTup (Jb (cK .non) (Jb (cK (.int 1)) cNil))) (Jb (cTup (Jb (cK (.str "0")) (Jb (cK (.int 1)) cNil))) (Jb (c2 pPow (cK (.int 10)) (cK (.int 30))) cNil)))))))))))) (gSet 1)) (sRet (cImm (cIdx (cVar 1) (Jo Jf (aOw (cMv 0) (some 0) (aRo (cL pLen (Jb (cVar 1) cNil)) aNil))))))))
def ZF:List D→FR:=JO 2 [true] Jeh
theorem ok__law_odd {f:Addr} {fd:FuncData} (F:Fun K "_law_odd" "_law_odd" Zo f fd) (z_len:mg "len" = none) (d__law_draw:Fd P w K mg base 1 "_law_draw" ["_law_tape_here", "_law_many"] [true,false] Jf):FnOk P w K mg base (L2.CX P w) 2 f fd ["_law_tape_here"] (spF K mg [true] ZF):=by
 refine' fn_ok (M:=_) (Vs:=_) F sc__law_odd rfl ?hv fun cdv A outer s H E hr=>?hb
 case hb =>
  have hr:Room 1 (cxOf (L2.CX P w) P w K mg base ["_law_tape_here", "_law_some"] "_law_odd" (defScope Zo) f cdv A outer s H E).A:=hr
  have hN:(cxOf (L2.CX P w) P w K mg base ["_law_tape_here", "_law_some"] "_law_odd" (defScope Zo) f cdv A outer s H E).N.Nodup:=sc__law_odd.nd
  have tk:Takes (cxOf (L2.CX P w) P w K mg base ["_law_tape_here", "_law_some"] "_law_odd" (defScope Zo) f cdv A outer s H E) (fun cls d _ H=>E cls d H):=takes_of rfl rfl rfl rfl
  have hp:=passes_of (X:=cxOf (L2.CX P w) P w K mg base ["_law_tape_here", "_law_some"] "_law_odd" (defScope Zo) f cdv A outer s H E) rfl
  have D__law_draw:=(d__law_draw).mono (k:=1) (by omega)
  refine'(Jh (JC hN (QF (Yk (Jc Qh (Jc Qm (Jc Qm (Jc Jd (Jc (Zf (SO.sb Jd)) (Jc Jd (Jc Qj (Jc Qj (Jc Qj (Jc (Je9 Jj) (Jc (Yk Jj) (Jc (JH (Jc Jd Jj)) (Jc (JH (Jc Jd (Jc Jd Jj))) (Jc (JH (Jc Jd (Jc Jd Jj))) (Jc (JH (Jc Qm (Jc Jd Jj))) (Jc (JH (Jc Jd (Jc Qm Jj))) (Jc (Yk (Jc Jd (Jc Jd Jj))) Jj)))))))))))))))))))) (Jh (JC hN (JA Yv (Ja 1) (SO.sb (QF (Yk (Jc (JH (Jc Jd (Jc Jd (Jc Jd Jj)))) (Jc (JH (Jc Qj (Jc Jd Jj))) (Jc (Yk (Jc Qj (Jc Jd Jj))) (Jc (Je9 (Jc (JH (Jc Qj (Jc Jd Jj))) Jj)) (Jc (Yk (Jc (Yk Jj) Jj)) (Jc (JH (Jc Qj (Jc Qh Jj))) (Jc (JH (Jc Qh (Jc Jd Jj))) (Jc (JH (Jc Qj (Jc Jd Jj))) (Jc (JA Jee (SO.sb Jd) (SO.sb Jd)) Jj)))))))))))))) (Jm (Jy (SB.imm (Jx hr (Ja 1) (SO.sb (Jr D__law_draw hr tk (JD (Ji (SO.sb (Jp Yn (by rfl) z_len (by rfl) (Jg (Ja 1) Jt))) Jq))))))))))
 case hv=>decide
abbrev YD:Stmt:=top 30
theorem sc__law_bent_row:FnScope ["_law_tape_here", "_law_thing", "_law_some", "_law_way", "_law_at", "_law_other"] ["_law_tape_here", "_law_thing"] (defScope YD):=⟨rfl,rfl,rfl,by decide +kernel,rfl,by decide +kernel,by decide +kernel⟩
def Ul:CS:=(sSeq (sPar 2 3 (Jb (cL QE (Jb (JG (cVar 1)) cNil)) (Jb (Jo Jf (aOw (cMv 0) (some 0) (aRo (cK (.int 8)) aNil))) cNil))) (sSeq (sPar 4 5 (Jb (Jo Jf (aOw (cMv 0) (some 0) (aRo (c2 pAdd (cL pLen (Jb (cVar 2) cNil)) (cK (.int 1))) aNil))) (Jb (Jo Jf (aOw (cMv 0) (some 0) (aRo (c2 pAdd (cL pLen (Jb (cVar 2) cNil)) (cK (.int 1))) aNil))) cNil))) (sSeq (sIf (cTt (c2 pEq (cVar 3) (cK (.int 0)))) (sAsg (c2 pAdd (cSl (cVar 2) pNo (pAt (cVar 4))) (cSl (cVar 2) (pAt (c2 pAdd (cVar 4) (cK (.int 1)))) pNo)) (gSet 2)) (sIf (cTt (c2 pEq (cVar 3) (cK (.int 1)))) (sAsg (c2 pAdd (c2 pAdd (cSl (cVar 2) pNo (pAt (cVar 4))) (cSl (cVar 2) (pAt (cVar 4)) (pAt (c2 pAdd (cVar 4) (cK (.int 1)))))) (cSl (cVar 2) (pAt (cVar 4)) pNo)) (gSet 2)) (sIf (Qk (cTt (c2 pEq (cVar 3) (cK (.int 2)))) (Qk (cTt (c2 pLtG (cVar 4) (cL pLen (Jb (cVar 2) cNil)))) (cTt (c2 pLtG (cVar 5) (cL pLen (Jb (cVar 2) cNil)))))) (sAsg (cTup (Jb (cImm (cIdx (cVar 2) (cVar 5))) (Jb (cImm (cIdx (cVar 2) (cVar 4))) cNil))) (JI 2 (Je (JaC 2 (lVar 2) (cVar 4)) (Je (JaC 2 (lVar 2) (cVar 5)) JL)))) (sIf (cTt (c2 pEq (cVar 3) (cK (.int 3)))) (sAsg (c2 QR (cVar 2) (c1 pNeg (cK (.int 1)))) (gSet 2)) (sIf (cTt (c2 pEq (cVar 3) (cK (.int 4)))) (ZE (cMut 2 kdL Jb7 (lVar 2) (Jb (cGet 4) (Jb (JG (cFix (Jo ZF (aOw (cMv 0) (some 0) aNil)))) cNil)))) (sIf (cTt (c2 pEq (cVar 3) (cK (.int 5)))) (sAsg (cSl (cVar 2) pNo (pAt (cVar 4))) (gSet 2)) (sIf (cTt (c2 pEq (cVar 3) (cK (.int 6)))) (sRet (cIf (cTt (cL pIsi (Jb (JG (cVar 1)) (Jb (cK (.ty "list")) cNil)))) (cL Jai (Jb (cVar 2) cNil)) (cGet 2))) sNil))))))) (sRet (cIf (cTt (cL pIsi (Jb (JG (cVar 1)) (Jb (cK (.ty "list")) cNil)))) (cGet 2) (cL Jai (Jb (cVar 2) cNil)))))))
def Ua:List D→FR:=JO 6 [true,true] Ul
theorem ok__law_bent_row {f:Addr} {fd:FuncData} (F:Fun K "_law_bent_row" "_law_bent_row" YD f fd) (z_list:mg "list" = none) (z_len:mg "len" = none) (z_isinstance:mg "isinstance" = none) (z_tuple:mg "tuple" = none) (d__law_draw:Fd P w K mg base 1 "_law_draw" ["_law_tape_here", "_law_many"] [true,false] Jf) (d__law_odd:Fd P w K mg base 2 "_law_odd" ["_law_tape_here"] [true] ZF):FnOk P w K mg base (L2.CX P w) 3 f fd ["_law_tape_here", "_law_thing"] (spF K mg [true,true] Ua):=by
 refine' fn_ok (M:=_) (Vs:=_) F sc__law_bent_row rfl ?hv fun cdv A outer s H E hr=>?hb
 case hb =>
  have hr:Room 2 (cxOf (L2.CX P w) P w K mg base ["_law_tape_here", "_law_thing", "_law_some", "_law_way", "_law_at", "_law_other"] "_law_bent_row" (defScope YD) f cdv A outer s H E).A:=hr
  have hN:(cxOf (L2.CX P w) P w K mg base ["_law_tape_here", "_law_thing", "_law_some", "_law_way", "_law_at", "_law_other"] "_law_bent_row" (defScope YD) f cdv A outer s H E).N.Nodup:=sc__law_bent_row.nd
  have tk:Takes (cxOf (L2.CX P w) P w K mg base ["_law_tape_here", "_law_thing", "_law_some", "_law_way", "_law_at", "_law_other"] "_law_bent_row" (defScope YD) f cdv A outer s H E) (fun cls d _ H=>E cls d H):=takes_of rfl rfl rfl rfl
  have hp:=passes_of (X:=cxOf (L2.CX P w) P w K mg base ["_law_tape_here", "_law_thing", "_law_some", "_law_way", "_law_at", "_law_other"] "_law_bent_row" (defScope YD) f cdv A outer s H E) rfl
  have D__law_draw:=(d__law_draw).mono (k:=2) (by omega)
  have D__law_odd:=(d__law_odd).mono (k:=2) (by omega)
  refine'(Jh (Jb1 rfl hN (Jc (YH (Jec rfl) (by rfl) z_list (by rfl) (Jg (JX (Ja 1)) Jt)) (Jc (Jr D__law_draw hr tk (JD (Ji (SO.sb Jd) Jq))) Jj))) (Jh (Jb1 rfl hN (Jc (Jr D__law_draw hr tk (JD (Ji (SO.sb (JA Yv (SO.sb (Jp Yn (by rfl) z_len (by rfl) (Jg (Ja 2) Jt))) (SO.sb Jd))) Jq))) (Jc (Jr D__law_draw hr tk (JD (Ji (SO.sb (JA Yv (SO.sb (Jp Yn (by rfl) z_len (by rfl) (Jg (Ja 2) Jt))) (SO.sb Jd))) Jq))) Jj))) (Jh (Yd (Jv (Uj hr) (Ja 3) (SO.sb Jd)) (Jm (JC hN (JA Yv (SO.sb (Ug (Ja 2) Jab (QK (Ja 4)) (by decide))) (SO.sb (Ug (Ja 2) (QK (SO.sb (JA Yv (Ja 4) (SO.sb Jd)))) Jab (by decide)))))) (Jm (Yd (Jv (Uj hr) (Ja 3) (SO.sb Jd)) (Jm (JC hN (JA Yv (SO.sb (JA Yv (SO.sb (Ug (Ja 2) Jab (QK (Ja 4)) (by decide))) (SO.sb (Ug (Ja 2) (QK (Ja 4)) (QK (SO.sb (JA Yv (Ja 4) (SO.sb Jd)))) (by decide))))) (SO.sb (Ug (Ja 2) (QK (Ja 4)) Jab (by decide)))))) (Jm (Yd (SW.st (QX (Jv (Uj hr) (Ja 3) (SO.sb Jd)) (QX (Jv (JcJ hr) (Ja 4) (SO.sb (Jp Yn (by rfl) z_len (by rfl) (Jg (Ja 2) Jt)))) (QB (Jv (JcJ hr) (Ja 5) (SO.sb (Jp Yn (by rfl) z_len (by rfl) (Jg (Ja 2) Jt)))))))) (Jm (UW (JH (Jc (SB.imm (Jx hr (Ja 2) (Ja 5))) (Jc (SB.imm (Jx hr (Ja 2) (Ja 4))) Jj))) (YX rfl (Js (Ja9 hr (W1:=fun cls d _ H=>E cls d H) (W2:=fun cls d _ H=>E cls d H) (Za 2) (Ja 4)) (Js (Ja9 hr (W1:=fun cls d _ H=>E cls d H) (W2:=fun cls d _ H=>E cls d H) (Za 2) (Ja 5)) Yo))))) (Jm (Yd (Jv (Uj hr) (Ja 3) (SO.sb Jd)) (Jm (JC hN (Jdg (Ja 2) (SO.sb (Zf (SO.sb Jd))) (by decide)))) (Jm (Yd (Jv (Uj hr) (Ja 3) (SO.sb Jd)) (Jm (Qa (SO.sb (so_insert (Za 2) (Jc (JQ 4) (Jc (JgV (QF (Jr D__law_odd hr tk (JD Jq)))) Jj)) (by decide) (by rfl) (by rfl) (by rfl) (by rfl) (by rfl))))) (Jm (Yd (Jv (Uj hr) (Ja 3) (SO.sb Jd)) (Jm (JC hN (Ug (Ja 2) Jab (QK (Ja 4)) (by decide)))) (Jm (Yd (Jv (Uj hr) (Ja 3) (SO.sb Jd)) (Jm (Jy (Je2 (Uf (SO.sb (Jp UF (by rfl) z_isinstance (by rfl) (Jg (JX (Ja 1)) (Jg (SO.sb (Zj (by rfl) z_list (by rfl))) Jt))))) (YH JcG (by rfl) z_tuple (by rfl) (Jg (Ja 2) Jt)) (JQ 2)))) JM))))))))))))) (Jm (Jy (Je2 (Uf (SO.sb (Jp UF (by rfl) z_isinstance (by rfl) (Jg (JX (Ja 1)) (Jg (SO.sb (Zj (by rfl) z_list (by rfl))) Jt))))) (JQ 2) (YH JcG (by rfl) z_tuple (by rfl) (Jg (Ja 2) Jt))))))))
 case hv=>decide
abbrev UK:Stmt:=top 31
theorem sc__law_step:FnScope ["_law_tape_here", "_law_thing", "_law_names_here", "_law_way", "_law_other"] ["_law_tape_here", "_law_thing", "_law_names_here"] (defScope UK):=⟨rfl,rfl,rfl,by decide +kernel,rfl,by decide +kernel,by decide +kernel⟩
def Uw:CS:=(sSeq (sIf (cTt (cL pIsi (Jb (JG (cVar 1)) (Jb (cTup (Jb (cK (.ty "list")) (Jb (cK (.ty "tuple")) cNil))) cNil)))) (sRet (Jo Ua (aOw (cMv 0) (some 0) (aOw (cMv 1) (some 1) aNil)))) sNil) (sSeq (sAsg (Jo Jf (aOw (cMv 0) (some 0) (aRo (cK (.int 9)) aNil))) (gSet 3)) (sSeq (sIf (Qk (cTt (cL pIsi (Jb (JG (cVar 1)) (Jb (cK (.ty "int")) cNil)))) (Yq (cTt (cL pIsi (Jb (JG (cVar 1)) (Jb (cK (.ty "bool")) cNil)))))) (sRet (cImm (cIdx (cLst (Jb (c2 pAdd (JG (cVar 1)) (cK (.int 1))) (Jb (c2 pSub (JG (cVar 1)) (cK (.int 1))) (Jb (c1 pNeg (JG (cVar 1))) (Jb (c2 pEq (JG (cVar 1)) (cK (.int 1))) (Jb (cL Jf7 (Jb (JG (cVar 1)) cNil)) (Jb (cK .non) (Jb (cTup (Jb (cImm (JG (cVar 1))) cNil)) (Jb (cK (.int 0)) (Jb (c2 pAdd (JG (cVar 1)) (c2 pPow (cK (.int 10)) (cK (.int 20)))) cNil)))))))))) (cVar 3)))) sNil) (sSeq (sIf (cTt (cL pIsi (Jb (JG (cVar 1)) (Jb (cK (.ty "str")) cNil)))) (sSeq (sAsg (cImm (cIdx (c2 pAdd (cL QE (Jb (cVar 2) cNil)) (cLst (Jb (cK (.str "lone")) (Jb (cK (.str "abcdefgh")) cNil)))) (Jo Jf (aOw (cMv 0) (some 0) (aRo (c2 pAdd (cL pLen (Jb (cVar 2) cNil)) (cK (.int 2))) aNil))))) (gSet 4)) (sRet (cImm (cIdx (cLst (Jb (cImm (cVar 4)) (Jb (cImm (cVar 4)) (Jb (cImm (cVar 4)) (Jb (c2 pAdd (JG (cVar 1)) (cK (.str "a"))) (Jb (cSl (JG (cVar 1)) pNo (pAt (c1 pNeg (cK (.int 1))))) (Jb (cM0S Jcr (JG (cVar 1))) (Jb (cK .non) (Jb (cFix (cLst (Jb (cImm (JG (cVar 1))) cNil))) (Jb (cImm (cVar 4)) cNil)))))))))) (cVar 3))))) sNil) (sRet (Jo ZF (aOw (cMv 0) (some 0) aNil)))))))
def Ys:List D→FR:=JO 5 [true,true,false] Uw
theorem ok__law_step {f:Addr} {fd:FuncData} (F:Fun K "_law_step" "_law_step" UK f fd) (z_list:mg "list" = none) (z_tuple:mg "tuple" = none) (z_isinstance:mg "isinstance" = none) (z_int:mg "int" = none) (z_bool:mg "bool" = none) (z_str:mg "str" = none) (z_len:mg "len" = none) (d__law_bent_row:Fd P w K mg base 3 "_law_bent_row" ["_law_tape_here", "_law_thing"] [true,true] Ua) (d__law_draw:Fd P w K mg base 1 "_law_draw" ["_law_tape_here", "_law_many"] [true,false] Jf) (d__law_odd:Fd P w K mg base 2 "_law_odd" ["_law_tape_here"] [true] ZF):FnOk P w K mg base (L2.CX P w) 4 f fd ["_law_tape_here", "_law_thing", "_law_names_here"] (spF K mg [true,true,false] Ys):=by
 refine' fn_ok (M:=_) (Vs:=_) F sc__law_step rfl ?hv fun cdv A outer s H E hr=>?hb
 case hb =>
  have hr:Room 3 (cxOf (L2.CX P w) P w K mg base ["_law_tape_here", "_law_thing", "_law_names_here", "_law_way", "_law_other"] "_law_step" (defScope UK) f cdv A outer s H E).A:=hr
  have hN:(cxOf (L2.CX P w) P w K mg base ["_law_tape_here", "_law_thing", "_law_names_here", "_law_way", "_law_other"] "_law_step" (defScope UK) f cdv A outer s H E).N.Nodup:=sc__law_step.nd
  have tk:Takes (cxOf (L2.CX P w) P w K mg base ["_law_tape_here", "_law_thing", "_law_names_here", "_law_way", "_law_other"] "_law_step" (defScope UK) f cdv A outer s H E) (fun cls d _ H=>E cls d H):=takes_of rfl rfl rfl rfl
  have hp:=passes_of (X:=cxOf (L2.CX P w) P w K mg base ["_law_tape_here", "_law_thing", "_law_names_here", "_law_way", "_law_other"] "_law_step" (defScope UK) f cdv A outer s H E) rfl
  have D__law_bent_row:=(d__law_bent_row).mono (k:=3) (by omega)
  have D__law_draw:=(d__law_draw).mono (k:=3) (by omega)
  have D__law_odd:=(d__law_odd).mono (k:=3) (by omega)
  refine'(Jh (Yd (Uf (SO.sb (Jp UF (by rfl) z_isinstance (by rfl) (Jg (JX (Ja 1)) (Jg (SO.sb (JH (Jc (Zj (by rfl) z_list (by rfl)) (Jc (Zj (by rfl) z_tuple (by rfl)) Jj)))) Jt))))) (Jm (Jy (Jr D__law_bent_row hr tk (JD (JD Jq))))) JM) (Jh (JC hN (Jr D__law_draw hr tk (JD (Ji (SO.sb Jd) Jq)))) (Jh (Yd (SW.st (QX (Uf (SO.sb (Jp UF (by rfl) z_isinstance (by rfl) (Jg (JX (Ja 1)) (Jg (SO.sb (Zj (by rfl) z_int (by rfl))) Jt))))) (QB (UC (Uf (SO.sb (Jp UF (by rfl) z_isinstance (by rfl) (Jg (JX (Ja 1)) (Jg (SO.sb (Zj (by rfl) z_bool (by rfl))) Jt))))))))) (Jm (Jy (SB.imm (Jx hr (SO.sb (Yk (Jc (JA Yv (JX (Ja 1)) (SO.sb Jd)) (Jc (JA Jax (JX (Ja 1)) (SO.sb Jd)) (Jc (Zf (JX (Ja 1))) (Jc (YG (Uj hr) (JX (Ja 1)) (SO.sb Jd)) (Jc (YH JgA (by rfl) z_str (by rfl) (Jg (JX (Ja 1)) Jt)) (Jc Qh (Jc (JH (Jc (SB.imm (JX (Ja 1))) Jj)) (Jc Jd (Jc (JA Yv (JX (Ja 1)) (SO.sb (JA Jee (SO.sb Jd) (SO.sb Jd)))) Jj))))))))))) (Ja 3))))) JM) (Jh (Yd (Uf (SO.sb (Jp UF (by rfl) z_isinstance (by rfl) (Jg (JX (Ja 1)) (Jg (SO.sb (Zj (by rfl) z_str (by rfl))) Jt))))) (Jh (JC hN (SB.imm (Jx hr (SO.sb (JA Yv (SO.sb (YH (Jec rfl) (by rfl) z_list (by rfl) (Jg (Ja 2) Jt))) (SO.sb (Yk (Jc Qj (Jc Qj Jj)))))) (SO.sb (Jr D__law_draw hr tk (JD (Ji (SO.sb (JA Yv (SO.sb (Jp Yn (by rfl) z_len (by rfl) (Jg (Ja 2) Jt))) (SO.sb Jd))) Jq))))))) (Jm (Jy (SB.imm (Jx hr (SO.sb (Yk (Jc (SB.imm (Ja 4)) (Jc (SB.imm (Ja 4)) (Jc (SB.imm (Ja 4)) (Jc (JA Yv (JX (Ja 1)) (SO.sb Qj)) (Jc (Ug (JX (Ja 1)) Jab (QK (SO.sb (Zf (SO.sb Jd)))) (by decide)) (Jc (so_upper (JX (Ja 1)) (by rfl) (by rfl)) (Jc Qh (Jc (QF (Yk (Jc (SB.imm (JX (Ja 1))) Jj))) (Jc (SB.imm (Ja 4)) Jj))))))))))) (Ja 3)))))) JM) (Jm (Jy (Jr D__law_odd hr tk (JD Jq))))))))
 case hv=>decide
abbrev YM:Stmt:=top 32
theorem Jbt:FnScope ["_law_tape_here", "_law_thing", "_law_names_here", "_law_at", "_law_some"] ["_law_tape_here", "_law_thing", "_law_names_here"] (defScope YM):=⟨rfl,rfl,rfl,by decide +kernel,rfl,by decide +kernel,by decide +kernel⟩
def Ue (φr:List D→FR):CS:=(sSeq (sIf (tcOr (Yq (cTt (cL pIsi (Jb (JG (cVar 1)) (Jb (cTup (Jb (cK (.ty "list")) (Jb (cK (.ty "tuple")) cNil))) cNil))))) (tcOr (cTt (c2 pEq (cL pLen (Jb (JG (cVar 1)) cNil)) (cK (.int 0)))) (cTt (c2 pEq (Jo Jf (aOw (cMv 0) (some 0) (aRo (cK (.int 3)) aNil))) (cK (.int 0)))))) (sRet (Jo Ys (aOw (cMv 0) (some 0) (aOw (cMv 1) (some 1) (aRo (cVar 2) aNil))))) sNil) (sSeq (sAsg (Jo Jf (aOw (cMv 0) (some 0) (aRo (cL pLen (Jb (JG (cVar 1)) cNil)) aNil))) (gSet 3)) (sSeq (sAsg (cL QE (Jb (JG (cVar 1)) cNil)) (gSet 4)) (sSeq (sAsg (JG (cFix (Jo φr (aOw (cMv 0) (some 0) (aOw (cImm (cIdx (cVar 4) (cVar 3))) none (aRo (cVar 2) aNil)))))) (JaC 4 (lVar 4) (cVar 3))) (sRet (cIf (cTt (cL pIsi (Jb (JG (cVar 1)) (Jb (cK (.ty "list")) cNil)))) (cGet 4) (cL Jai (Jb (cVar 4) cNil))))))))
def JU:Nat→List D→FR
 | 0=>fun _=>.err
 | n+1=>JO 5 [true,true,false] (Ue (JU n))
theorem Jbi {f:Addr} {fd:FuncData} (F:Fun K "_law_spoilt" "_law_spoilt" YM f fd) (hm:mg "_law_spoilt" = some (.ref f)) (hb:Binds K fd ["_law_tape_here", "_law_thing", "_law_names_here"] []) (z_list:mg "list" = none) (z_tuple:mg "tuple" = none) (z_isinstance:mg "isinstance" = none) (z_len:mg "len" = none) (d__law_draw:Fd P w K mg base 1 "_law_draw" ["_law_tape_here", "_law_many"] [true,false] Jf) (d__law_step:Fd P w K mg base 4 "_law_step" ["_law_tape_here", "_law_thing", "_law_names_here"] [true,true,false] Ys):∀n:Nat,FnOk P w K mg base (L2.CX P w) (n+4+1) f fd ["_law_tape_here", "_law_thing", "_law_names_here"] (spF K mg [true,true,false] (JU n))
 | 0=>fn_err F Jbt rfl
 | n+1=>by
  have D__law_spoilt:Fd P w K mg base (n+4+1) "_law_spoilt" ["_law_tape_here", "_law_thing", "_law_names_here"] [true,true,false] (JU n):=YN F hm hb (Jbi F hm hb z_list z_tuple z_isinstance z_len d__law_draw d__law_step n)
  refine' fn_ok (M:=_) (Vs:=_) F Jbt rfl ?hv fun cdv A outer s H E hr=>?hb
  case hb =>
   have hr:Room (n+4+1) (cxOf (L2.CX P w) P w K mg base ["_law_tape_here", "_law_thing", "_law_names_here", "_law_at", "_law_some"] "_law_spoilt" (defScope YM) f cdv A outer s H E).A:=by have:=hr;rw[show n+1+4=n+4+1 by omega]at this;exact this
   have hN:(cxOf (L2.CX P w) P w K mg base ["_law_tape_here", "_law_thing", "_law_names_here", "_law_at", "_law_some"] "_law_spoilt" (defScope YM) f cdv A outer s H E).N.Nodup:=Jbt.nd
   have tk:Takes (cxOf (L2.CX P w) P w K mg base ["_law_tape_here", "_law_thing", "_law_names_here", "_law_at", "_law_some"] "_law_spoilt" (defScope YM) f cdv A outer s H E) (fun cls d _ H=>E cls d H):=takes_of rfl rfl rfl rfl
   have hp:=passes_of (X:=cxOf (L2.CX P w) P w K mg base ["_law_tape_here", "_law_thing", "_law_names_here", "_law_at", "_law_some"] "_law_spoilt" (defScope YM) f cdv A outer s H E) rfl
   have D__law_draw:=(d__law_draw).mono (k:=n+4+1) (by omega)
   have D__law_step:=(d__law_step).mono (k:=n+4+1) (by omega)
   refine'(Jh (Yd (SW.st (Qe (UC (Uf (SO.sb (Jp UF (by rfl) z_isinstance (by rfl) (Jg (JX (Ja 1)) (Jg (SO.sb (JH (Jc (Zj (by rfl) z_list (by rfl)) (Jc (Zj (by rfl) z_tuple (by rfl)) Jj)))) Jt)))))) (Qe (Jv (Uj hr) (SO.sb (Jp Yn (by rfl) z_len (by rfl) (Jg (JX (Ja 1)) Jt))) (SO.sb Jd)) (QT (Jv (Uj hr) (SO.sb (Jr D__law_draw hr tk (JD (Ji (SO.sb Jd) Jq)))) (SO.sb Jd)))))) (Jm (Jy (Jr D__law_step hr tk (JD (JD (Ji (Ja 2) Jq)))))) JM) (Jh (JC hN (Jr D__law_draw hr tk (JD (Ji (SO.sb (Jp Yn (by rfl) z_len (by rfl) (Jg (JX (Ja 1)) Jt))) Jq)))) (Jh (JC hN (YH (Jec rfl) (by rfl) z_list (by rfl) (Jg (JX (Ja 1)) Jt))) (Jh (UW (JgV (QF (Jr D__law_spoilt hr tk (JD (sri_ow (SB.imm (Jx hr (Ja 4) (Ja 3))) (Ji (Ja 2) Jq)))))) (Ja9 hr (W1:=fun cls d _ H=>E cls d H) (W2:=fun cls d _ H=>E cls d H) (Za 4) (Ja 3))) (Jm (Jy (Je2 (Uf (SO.sb (Jp UF (by rfl) z_isinstance (by rfl) (Jg (JX (Ja 1)) (Jg (SO.sb (Zj (by rfl) z_list (by rfl))) Jt))))) (JQ 4) (YH JcG (by rfl) z_tuple (by rfl) (Jg (Ja 4) Jt)))))))))
  case hv=>decide
theorem ok__law_spoilt {f:Addr} {fd:FuncData} (F:Fun K "_law_spoilt" "_law_spoilt" YM f fd) (hm:mg "_law_spoilt" = some (.ref f)) (hb:Binds K fd ["_law_tape_here", "_law_thing", "_law_names_here"] []) (z_list:mg "list" = none) (z_tuple:mg "tuple" = none) (z_isinstance:mg "isinstance" = none) (z_len:mg "len" = none) (d__law_draw:Fd P w K mg base 1 "_law_draw" ["_law_tape_here", "_law_many"] [true,false] Jf) (d__law_step:Fd P w K mg base 4 "_law_step" ["_law_tape_here", "_law_thing", "_law_names_here"] [true,true,false] Ys):FnOk P w K mg base (L2.CX P w) 14 f fd ["_law_tape_here", "_law_thing", "_law_names_here"] (spF K mg [true,true,false] (JU 9)):=Jbi F hm hb z_list z_tuple z_isinstance z_len d__law_draw d__law_step 9
abbrev JaG:Stmt:=top 46
theorem sc_law:FnScope ["_law_script", "_law_k", "_law_tape_here", "_law_names_here", "_law_turn_here", "_law_joinings_here", "_law_papers_here", "_law_again", "_law_which", "_law_world", "_law_ends", "_law_paper", "_law_turning"] ["_law_script"] (defScope JaG):=⟨rfl,rfl,rfl,by decide +kernel,rfl,by decide +kernel,by decide +kernel⟩
def Jdp:CS:=(sSeq (sIf (Yq (cTt (Jo Qs (aRo (cVar 8) (aRo (cVar 9) (aRo (cVar 10) (aRo (cVar 11) aNil))))))) (sRet (cK (.bl false))) sNil) (sIf (Qk (cTt (c2 pNe (cVar 8) (cK (.int 1)))) (cTt (c2 ZY (cIdx (Jo UG (aRo (cVar 8) (aRo (cVar 9) (aRo (cVar 10) (aRo (cVar 11) aNil))))) (cK (.int 0))) (cK (.bl true))))) (sRet (cK (.bl false))) sNil))
def Jds:CS:=(sAsg (cFix (Jo (JU 9) (aOw (cMv 2) (some 2) (aOw (cMv 11) (some 11) (aRo (cVar 3) aNil))))) (gSet 11))
def Jdr:CS:=(sSeq (sAsg (cImm (cIdx (cVar 6) (Jo Jf (aOw (cMv 2) (some 2) (aRo (cL pLen (Jb (cVar 6) cNil)) aNil))))) (JI 4 (Je (gSet 8) (Je (gSet 9) (Je (gSet 10) (Je (gSet 11) JL)))))) (sSeq (sIf (cTt (c2 pEq (Jo Jf (aOw (cMv 2) (some 2) (aRo (cK (.int 2)) aNil))) (cK (.int 0)))) (sAsg (cTup (Jb (cL JaL (Jb (cIdx (cVar 9) (cK (.int 0))) cNil)) (Jb (cL JaL (Jb (cIdx (cVar 9) (cK (.int 1))) cNil)) (Jb (cGet 4) cNil)))) (gSet 9)) sNil) (sSeq (sFor (ZH (Jb (c2 pAdd (cK (.int 1)) (cL JbF (Jb (c2 pEq (Jo Jf (aOw (cMv 2) (some 2) (aRo (cK (.int 3)) aNil))) (cK (.int 0))) cNil))) cNil)) (gSet 12) Jds) (sIf (Yq (cTt (Jo Qs (aRo (cVar 8) (aRo (cVar 9) (aRo (cVar 10) (aRo (cVar 11) aNil))))))) (sRet (cK (.bl false))) sNil))))
def Jdf:CS:=(sSeq (sAsg (Jo Qr (aRo (cVar 0) (aRo (cVar 1) aNil))) (gSet 2)) (sSeq (sAsg (cFix (c2 pAdd (Jo ZR (aOw (cMv 2) (some 2) aNil)) (cLst (Jb (cK (.str "last")) cNil)))) (gSet 3)) (sSeq (sAsg (Jo Qo (aOw (cMv 2) (some 2) aNil)) (gSet 4)) (sSeq (sAsg (cFix (cIf (cTt (c2 pGtG (cL pLen (Jb (cVar 3) cNil)) (cK (.int 1)))) (Jo Un (aOw (cMv 2) (some 2) (aRo (cSl (cVar 3) pNo (pAt (c1 pNeg (cK (.int 1))))) (aRo (cVar 4) aNil)))) (cLst cNil))) (gSet 5)) (sSeq (sAsg (Jo Zz (aOw (cMv 2) (some 2) (aOw (cMv 3) (some 3) (aOw (cMv 5) (some 5) (aRo (cVar 4) aNil))))) (gSet 6)) (sSeq (sFor (JB (cVar 6)) (JI 4 (Je (gSet 8) (Je (gSet 9) (Je (gSet 10) (Je (gSet 11) JL))))) Jdp) (sFor (ZH (Jb (cK (.int 12)) cNil)) (gSet 7) Jdr)))))))
def JhQ:CS:=(sSeq (sFor (ZH (Jb (c2 pAdd (cK (.int 1)) (cL JfK (Jb (cK (.int 6)) (Jb (cL pLen (Jb (cVar 0) cNil)) cNil)))) cNil)) (gSet 1) Jdf) (sRet (cK (.bl true))))
def Jg8:List D→FR:=JO 13 [false] JhQ
theorem ok_law {f:Addr} {fd:FuncData} (F:Fun K "law" "law" JaG f fd) (z_len:mg "len" = none) (z_min:mg "min" = none) (z_range:mg "range" = none) (z_tuple:mg "tuple" = none) (z_int:mg "int" = none) (d__law_tape:Fd P w K mg base 1 "_law_tape" ["_law_script", "_law_k"] [false,false] Qr) (d__law_names:Fd P w K mg base 2 "_law_names" ["_law_tape_here"] [true] ZR) (d__law_turn:Fd P w K mg base 2 "_law_turn" ["_law_tape_here"] [true] Qo) (d__law_joinings:Fd P w K mg base 2 "_law_joinings" ["_law_tape_here", "_law_names_here", "_law_turn_here"] [true,false,false] Un) (d__law_papers:Fd P w K mg base 3 "_law_papers" ["_law_tape_here", "_law_names_here", "_law_joinings_here", "_law_turn_here"] [true,true,true,false] Zz) (d__law_says:FdG P w K mg base 6 "_law_says" ["_law_which", "_law_world", "_law_ends", "_law_paper"] [false,false,false,false] Qs) (d__law_said:Fd P w K mg base 5 "_law_said" ["_law_which", "_law_world", "_law_ends", "_law_paper"] [false,false,false,false] UG) (d__law_draw:Fd P w K mg base 1 "_law_draw" ["_law_tape_here", "_law_many"] [true,false] Jf) (d__law_spoilt:Fd P w K mg base 14 "_law_spoilt" ["_law_tape_here", "_law_thing", "_law_names_here"] [true,true,false] (JU 9)):FnG P w K mg base 15 f fd ["_law_script"] (spF K mg [false] Jg8):=by
 refine' Jh1 (M:=_) (Vs:=_) F sc_law rfl ?hv fun cdv A outer s H E hr hG=>?hb
 case hb =>
  have hr:Room 14 (cxOf (L2.CX P w) P w K mg base ["_law_script", "_law_k", "_law_tape_here", "_law_names_here", "_law_turn_here", "_law_joinings_here", "_law_papers_here", "_law_again", "_law_which", "_law_world", "_law_ends", "_law_paper", "_law_turning"] "law" (defScope JaG) f cdv A outer s H E).A:=hr
  have hG:(cxOf (L2.CX P w) P w K mg base ["_law_script", "_law_k", "_law_tape_here", "_law_names_here", "_law_turn_here", "_law_joinings_here", "_law_papers_here", "_law_again", "_law_which", "_law_world", "_law_ends", "_law_paper", "_law_turning"] "law" (defScope JaG) f cdv A outer s H E).A.guards=some []:=hG
  have hN:(cxOf (L2.CX P w) P w K mg base ["_law_script", "_law_k", "_law_tape_here", "_law_names_here", "_law_turn_here", "_law_joinings_here", "_law_papers_here", "_law_again", "_law_which", "_law_world", "_law_ends", "_law_paper", "_law_turning"] "law" (defScope JaG) f cdv A outer s H E).N.Nodup:=sc_law.nd
  have tk:Takes (cxOf (L2.CX P w) P w K mg base ["_law_script", "_law_k", "_law_tape_here", "_law_names_here", "_law_turn_here", "_law_joinings_here", "_law_papers_here", "_law_again", "_law_which", "_law_world", "_law_ends", "_law_paper", "_law_turning"] "law" (defScope JaG) f cdv A outer s H E) (fun cls d _ H=>E cls d H):=takes_of rfl rfl rfl rfl
  have hp:=passes_of (X:=cxOf (L2.CX P w) P w K mg base ["_law_script", "_law_k", "_law_tape_here", "_law_names_here", "_law_turn_here", "_law_joinings_here", "_law_papers_here", "_law_again", "_law_which", "_law_world", "_law_ends", "_law_paper", "_law_turning"] "law" (defScope JaG) f cdv A outer s H E) rfl
  have D__law_tape:=(d__law_tape).mono (k:=14) (by omega)
  have D__law_names:=(d__law_names).mono (k:=14) (by omega)
  have D__law_turn:=(d__law_turn).mono (k:=14) (by omega)
  have D__law_joinings:=(d__law_joinings).mono (k:=14) (by omega)
  have D__law_papers:=(d__law_papers).mono (k:=14) (by omega)
  have D__law_says:=(d__law_says).mono (k:=14) (by omega)
  have D__law_said:=(d__law_said).mono (k:=14) (by omega)
  have D__law_draw:=(d__law_draw).mono (k:=14) (by omega)
  have D__law_spoilt:=(d__law_spoilt).mono (k:=14) (by omega)
  refine'(Jh (ZD hp rfl (Jae (by rfl) z_range (Jg (SO.sb (JA Yv (SO.sb Jd) (SO.sb (Jp (Jgv hr rfl) (by rfl) z_min (by rfl) (Jg (SO.sb Jd) (Jg (SO.sb (Jp Yn (by rfl) z_len (by rfl) (Jg (Ja 0) Jt))) Jt)))))) Jt)) (Jl 1 hN) (Jh (JC hN (Jr D__law_tape hr tk (Ji (Ja 0) (Ji (Ja 1) Jq)))) (Jh (JC hN (QF (JA Yv (SO.sb (Jr D__law_names hr tk (JD Jq))) (SO.sb (Yk (Jc Qj Jj)))))) (Jh (JC hN (Jr D__law_turn hr tk (JD Jq))) (Jh (JC hN (QF (Je2 (Jv (Jgd hr) (SO.sb (Jp Yn (by rfl) z_len (by rfl) (Jg (Ja 3) Jt))) (SO.sb Jd)) (Jr D__law_joinings hr tk (JD (Ji (SO.sb (Ug (Ja 3) Jab (QK (SO.sb (Zf (SO.sb Jd)))) (by decide))) (Ji (Ja 4) Jq)))) (Yk Jj)))) (Jh (JC hN (Jr D__law_papers hr tk (JD (JD (JD (Ji (Ja 4) Jq)))))) (Jh (ZD hp rfl (Yu (Ja 6)) (YX rfl (Js (Jl 8 hN) (Js (Jl 9 hN) (Js (Jl 10 hN) (Js (Jl 11 hN) Yo))))) (Jh (Yd (UC (Uf (SO.sb (JfM D__law_says hr hG tk (Ji (Ja 8) (Ji (Ja 9) (Ji (Ja 10) (Ji (Ja 11) Jq)))))))) (Jm (Jy Qm)) JM) (Jm (Yd (SW.st (QX (Jv (ZL hr) (Ja 8) (SO.sb Jd)) (QB (Jv JdT (Jx hr (SO.sb (Jr D__law_said hr tk (Ji (Ja 8) (Ji (Ja 9) (Ji (Ja 10) (Ji (Ja 11) Jq)))))) (SO.sb Jd)) (SO.sb Qm))))) (Jm (Jy Qm)) JM)))) (Jm (ZD hp rfl (Jae (by rfl) z_range (Jg (SO.sb Jd) Jt)) (Jl 7 hN) (Jh (UW (SB.imm (Jx hr (Ja 6) (SO.sb (Jr D__law_draw hr tk (JD (Ji (SO.sb (Jp Yn (by rfl) z_len (by rfl) (Jg (Ja 6) Jt))) Jq)))))) (YX rfl (Js (Jl 8 hN) (Js (Jl 9 hN) (Js (Jl 10 hN) (Js (Jl 11 hN) Yo)))))) (Jh (Yd (Jv (Uj hr) (SO.sb (Jr D__law_draw hr tk (JD (Ji (SO.sb Jd) Jq)))) (SO.sb Jd)) (Jm (JC hN (JH (Jc (YH Jcj (by rfl) z_tuple (by rfl) (Jg (Jx hr (Ja 9) (SO.sb Jd)) Jt)) (Jc (YH Jcj (by rfl) z_tuple (by rfl) (Jg (Jx hr (Ja 9) (SO.sb Jd)) Jt)) (Jc (JQ 4) Jj)))))) JM) (Jh (ZD hp rfl (Jae (by rfl) z_range (Jg (SO.sb (JA Yv (SO.sb Jd) (SO.sb (YH Je3 (by rfl) z_int (by rfl) (Jg (SO.sb (YG (Uj hr) (SO.sb (Jr D__law_draw hr tk (JD (Ji (SO.sb Jd) Jq)))) (SO.sb Jd))) Jt))))) Jt)) (Jl 12 hN) (Jm (JC hN (QF (Jr D__law_spoilt hr tk (JD (JD (Ji (Ja 3) Jq)))))))) (Jm (Yd (UC (Uf (SO.sb (JfM D__law_says hr hG tk (Ji (Ja 8) (Ji (Ja 9) (Ji (Ja 10) (Ji (Ja 11) Jq)))))))) (Jm (Jy Qm)) JM)))))))))))))) (Jm (Jy Qm)))
 case hv=>decide
end
end VS
namespace VS
open PySem L2 SeqAt PySem.Spec PyProof.Rows
def Jij:He.FnD:=⟨("_law_tape", none), "_law_tape", "_law_tape", defArgs UN,defBody UN,defScope UN⟩
def Jiu:He.FnD:=⟨("_law_draw", none), "_law_draw", "_law_draw", defArgs UO,defBody UO,defScope UO⟩
def Jir:He.FnD:=⟨("_law_names", none), "_law_names", "_law_names", defArgs Ui,defBody Ui,defScope Ui⟩
def JiI:He.FnD:=⟨("_law_turn", none), "_law_turn", "_law_turn", defArgs UJ,defBody UJ,defScope UJ⟩
def JiM:He.FnD:=⟨("_law_joinings", none), "_law_joinings", "_law_joinings", defArgs Yp,defBody Yp,defScope Yp⟩
def Jit:He.FnD:=⟨("_law_classes", none), "_law_classes", "_law_classes", defArgs JT,defBody JT,defScope JT⟩
def Jiq:He.FnD:=⟨("_law_numbers", none), "_law_numbers", "_law_numbers", defArgs YK,defBody YK,defScope YK⟩
def JiA:He.FnD:=⟨("_law_straight", none), "_law_straight", "_law_straight", defArgs YB,defBody YB,defScope YB⟩
def Jio:He.FnD:=⟨("_law_twinned", none), "_law_twinned", "_law_twinned", defArgs YI,defBody YI,defScope YI⟩
def Jhg:He.FnD:=⟨("_law_counted", none), "_law_counted", "_law_counted", defArgs YR,defBody YR,defScope YR⟩
def Jhn:He.FnD:=⟨("_law_coming_out", none), "_law_coming_out", "_law_coming_out", defArgs Ym,defBody Ym,defScope Ym⟩
def Jg6:He.FnD:=⟨("_law_round", none), "_law_round", "_law_round", defArgs YU,defBody YU,defScope YU⟩
def Jht:He.FnD:=⟨("_law_papers", none), "_law_papers", "_law_papers", defArgs YC,defBody YC,defScope YC⟩
def JhJ:He.FnD:=⟨("is_list", none), "is_list", "is_list", defArgs ZQ,defBody ZQ,defScope ZQ⟩
def JhE:He.FnD:=⟨("is_row_of", none), "is_row_of", "is_row_of", defArgs UI,defBody UI,defScope UI⟩
def JhA:He.FnD:=⟨("is_whole", none), "is_whole", "is_whole", defArgs Zt,defBody Zt,defScope Zt⟩
def Jie:He.FnD:=⟨("is_named", none), "is_named", "is_named", defArgs Zu,defBody Zu,defScope Zu⟩
def JhV:He.FnD:=⟨("are_unlike", none), "are_unlike", "are_unlike", defArgs Us,defBody Us,defScope Us⟩
def Jg9:He.FnD:=⟨("are_some_of", none), "are_some_of", "are_some_of", defArgs YQ,defBody YQ,defScope YQ⟩
def Jh8:He.FnD:=⟨("counted", none), "counted", "counted", defArgs ZW,defBody ZW,defScope ZW⟩
def Jhc:He.FnD:=⟨("shows_numbers", none), "shows_numbers", "shows_numbers", defArgs Yb,defBody Yb,defScope Yb⟩
def Jhp:He.FnD:=⟨("_law_is_int", none), "_law_is_int", "_law_is_int", defArgs Ud,defBody Ud,defScope Ud⟩
def Jho:He.FnD:=⟨("_law_numbers_due", none), "_law_numbers_due", "_law_numbers_due", defArgs JV,defBody JV,defScope JV⟩
def Jg4:He.FnD:=⟨("is_pair", none), "is_pair", "is_pair", defArgs ZV,defBody ZV,defScope ZV⟩
def Jhr:He.FnD:=⟨("is_way", none), "is_way", "is_way", defArgs Qi,defBody Qi,defScope Qi⟩
def JhY:He.FnD:=⟨("ends_by", none), "ends_by", "ends_by", defArgs ZS,defBody ZS,defScope ZS⟩
def JhG:He.FnD:=⟨("passed", none), "passed", "passed", defArgs QA,defBody QA,defScope QA⟩
def JhT:He.FnD:=⟨("names_met", none), "names_met", "names_met", defArgs UQ,defBody UQ,defScope UQ⟩
def Jhq:He.FnD:=⟨("steps_of", none), "steps_of", "steps_of", defArgs UU,defBody UU,defScope UU⟩
def JhM:He.FnD:=⟨("shows_ring", none), "shows_ring", "shows_ring", defArgs Uk,defBody Uk,defScope Uk⟩
def JhH:He.FnD:=⟨("_law_met", none), "_law_met", "_law_met", defArgs Zp,defBody Zp,defScope Zp⟩
def Jhf:He.FnD:=⟨("_law_walked", none), "_law_walked", "_law_walked", defArgs YL,defBody YL,defScope YL⟩
def JhC:He.FnD:=⟨("_law_ring_due", none), "_law_ring_due", "_law_ring_due", defArgs Yj,defBody Yj,defScope Yj⟩
def Jhv:He.FnD:=⟨("shows_way", none), "shows_way", "shows_way", defArgs UL,defBody UL,defScope UL⟩
def Jhs:He.FnD:=⟨("_law_way_due", none), "_law_way_due", "_law_way_due", defArgs YO,defBody YO,defScope YO⟩
def JhP:He.FnD:=⟨("shows_parted", none), "shows_parted", "shows_parted", defArgs Yy,defBody Yy,defScope Yy⟩
def JhS:He.FnD:=⟨("_law_parted_due", none), "_law_parted_due", "_law_parted_due", defArgs JR,defBody JR,defScope JR⟩
def JhX:He.FnD:=⟨("_law_said", none), "_law_said", "_law_said", defArgs UM,defBody UM,defScope UM⟩
def Jh6:He.FnD:=⟨("_law_says", none), "_law_says", "_law_says", defArgs Uv,defBody Uv,defScope Uv⟩
def JhO:He.FnD:=⟨("_law_odd", none), "_law_odd", "_law_odd", defArgs Zo,defBody Zo,defScope Zo⟩
def Jhj:He.FnD:=⟨("_law_bent_row", none), "_law_bent_row", "_law_bent_row", defArgs YD,defBody YD,defScope YD⟩
def Jig:He.FnD:=⟨("_law_step", none), "_law_step", "_law_step", defArgs UK,defBody UK,defScope UK⟩
def JhN:He.FnD:=⟨("_law_spoilt", none), "_law_spoilt", "_law_spoilt", defArgs YM,defBody YM,defScope YM⟩
def JhZ:He.FnD:=⟨("law", none), "law", "law", defArgs JaG,defBody JaG,defScope JaG⟩
def fz0:List He.FnD:=[Jij,Jiu,Jir,JiI,JiM,Jit,Jiq,JiA,Jio,Jhg,Jhn,Jg6,Jht,JhJ,JhE,JhA,Jie,JhV,Jg9,Jh8,Jhc,Jhp,Jho,Jg4,Jhr,JhY,JhG,JhT,Jhq,JhM]
def fz1:List He.FnD:=[JhH,Jhf,JhC,Jhv,Jhs,JhP,JhS,JhX,Jh6,JhO,Jhj,Jig,JhN,JhZ]
def qz0 (K:PySem.W.Frag):List Bool:=[
 decide (PySem.W.nsIn K mainGlobals "_law_tape" = some (some (.ref (He.ga K "_law_tape")))),
 decide (PySem.W.keepIn K (.ref (He.ga K "_law_tape"))=true),
 decide (PySem.W.nsIn K mainGlobals "_law_draw" = some (some (.ref (He.ga K "_law_draw")))),
 decide (PySem.W.keepIn K (.ref (He.ga K "_law_draw"))=true),
 decide (PySem.W.nsIn K mainGlobals "_law_names" = some (some (.ref (He.ga K "_law_names")))),
 decide (PySem.W.keepIn K (.ref (He.ga K "_law_names"))=true),
 decide (PySem.W.nsIn K mainGlobals "_law_turn" = some (some (.ref (He.ga K "_law_turn")))),
 decide (PySem.W.keepIn K (.ref (He.ga K "_law_turn"))=true),
 decide (PySem.W.nsIn K mainGlobals "_law_joinings" = some (some (.ref (He.ga K "_law_joinings")))),
 decide (PySem.W.keepIn K (.ref (He.ga K "_law_joinings"))=true),
 decide (PySem.W.nsIn K mainGlobals "_law_classes" = some (some (.ref (He.ga K "_law_classes")))),
 decide (PySem.W.keepIn K (.ref (He.ga K "_law_classes"))=true),
 decide (PySem.W.nsIn K mainGlobals "_law_numbers" = some (some (.ref (He.ga K "_law_numbers")))),
 decide (PySem.W.keepIn K (.ref (He.ga K "_law_numbers"))=true),
 decide (PySem.W.nsIn K mainGlobals "_law_straight" = some (some (.ref (He.ga K "_law_straight")))),
 decide (PySem.W.keepIn K (.ref (He.ga K "_law_straight"))=true),
 decide (PySem.W.nsIn K mainGlobals "_law_twinned" = some (some (.ref (He.ga K "_law_twinned")))),
 decide (PySem.W.keepIn K (.ref (He.ga K "_law_twinned"))=true),
 decide (PySem.W.nsIn K mainGlobals "_law_counted" = some (some (.ref (He.ga K "_law_counted")))),
 decide (PySem.W.keepIn K (.ref (He.ga K "_law_counted"))=true),
 decide (PySem.W.nsIn K mainGlobals "_law_coming_out" = some (some (.ref (He.ga K "_law_coming_out")))),
 decide (PySem.W.keepIn K (.ref (He.ga K "_law_coming_out"))=true),
 decide (PySem.W.nsIn K mainGlobals "_law_round" = some (some (.ref (He.ga K "_law_round")))),
 decide (PySem.W.keepIn K (.ref (He.ga K "_law_round"))=true),
 decide (PySem.W.nsIn K mainGlobals "_law_papers" = some (some (.ref (He.ga K "_law_papers")))),
 decide (PySem.W.keepIn K (.ref (He.ga K "_law_papers"))=true),
 decide (PySem.W.nsIn K mainGlobals "is_list" = some (some (.ref (He.ga K "is_list")))),
 decide (PySem.W.keepIn K (.ref (He.ga K "is_list"))=true),
 decide (PySem.W.nsIn K mainGlobals "is_row_of" = some (some (.ref (He.ga K "is_row_of")))),
 decide (PySem.W.keepIn K (.ref (He.ga K "is_row_of"))=true)]
def qz1 (K:PySem.W.Frag):List Bool:=[
 decide (PySem.W.nsIn K mainGlobals "is_whole" = some (some (.ref (He.ga K "is_whole")))),
 decide (PySem.W.keepIn K (.ref (He.ga K "is_whole"))=true),
 decide (PySem.W.nsIn K mainGlobals "is_named" = some (some (.ref (He.ga K "is_named")))),
 decide (PySem.W.keepIn K (.ref (He.ga K "is_named"))=true),
 decide (PySem.W.nsIn K mainGlobals "are_unlike" = some (some (.ref (He.ga K "are_unlike")))),
 decide (PySem.W.keepIn K (.ref (He.ga K "are_unlike"))=true),
 decide (PySem.W.nsIn K mainGlobals "are_some_of" = some (some (.ref (He.ga K "are_some_of")))),
 decide (PySem.W.keepIn K (.ref (He.ga K "are_some_of"))=true),
 decide (PySem.W.nsIn K mainGlobals "counted" = some (some (.ref (He.ga K "counted")))),
 decide (PySem.W.keepIn K (.ref (He.ga K "counted"))=true),
 decide (PySem.W.nsIn K mainGlobals "shows_numbers" = some (some (.ref (He.ga K "shows_numbers")))),
 decide (PySem.W.keepIn K (.ref (He.ga K "shows_numbers"))=true),
 decide (PySem.W.nsIn K mainGlobals "_law_is_int" = some (some (.ref (He.ga K "_law_is_int")))),
 decide (PySem.W.keepIn K (.ref (He.ga K "_law_is_int"))=true),
 decide (PySem.W.nsIn K mainGlobals "_law_numbers_due" = some (some (.ref (He.ga K "_law_numbers_due")))),
 decide (PySem.W.keepIn K (.ref (He.ga K "_law_numbers_due"))=true),
 decide (PySem.W.nsIn K mainGlobals "is_pair" = some (some (.ref (He.ga K "is_pair")))),
 decide (PySem.W.keepIn K (.ref (He.ga K "is_pair"))=true),
 decide (PySem.W.nsIn K mainGlobals "is_way" = some (some (.ref (He.ga K "is_way")))),
 decide (PySem.W.keepIn K (.ref (He.ga K "is_way"))=true),
 decide (PySem.W.nsIn K mainGlobals "ends_by" = some (some (.ref (He.ga K "ends_by")))),
 decide (PySem.W.keepIn K (.ref (He.ga K "ends_by"))=true),
 decide (PySem.W.nsIn K mainGlobals "passed" = some (some (.ref (He.ga K "passed")))),
 decide (PySem.W.keepIn K (.ref (He.ga K "passed"))=true),
 decide (PySem.W.nsIn K mainGlobals "names_met" = some (some (.ref (He.ga K "names_met")))),
 decide (PySem.W.keepIn K (.ref (He.ga K "names_met"))=true),
 decide (PySem.W.nsIn K mainGlobals "steps_of" = some (some (.ref (He.ga K "steps_of")))),
 decide (PySem.W.keepIn K (.ref (He.ga K "steps_of"))=true),
 decide (PySem.W.nsIn K mainGlobals "shows_ring" = some (some (.ref (He.ga K "shows_ring")))),
 decide (PySem.W.keepIn K (.ref (He.ga K "shows_ring"))=true)]
def qz2 (K:PySem.W.Frag):List Bool:=[
 decide (PySem.W.nsIn K mainGlobals "_law_met" = some (some (.ref (He.ga K "_law_met")))),
 decide (PySem.W.keepIn K (.ref (He.ga K "_law_met"))=true),
 decide (PySem.W.nsIn K mainGlobals "_law_walked" = some (some (.ref (He.ga K "_law_walked")))),
 decide (PySem.W.keepIn K (.ref (He.ga K "_law_walked"))=true),
 decide (PySem.W.nsIn K mainGlobals "_law_ring_due" = some (some (.ref (He.ga K "_law_ring_due")))),
 decide (PySem.W.keepIn K (.ref (He.ga K "_law_ring_due"))=true),
 decide (PySem.W.nsIn K mainGlobals "shows_way" = some (some (.ref (He.ga K "shows_way")))),
 decide (PySem.W.keepIn K (.ref (He.ga K "shows_way"))=true),
 decide (PySem.W.nsIn K mainGlobals "_law_way_due" = some (some (.ref (He.ga K "_law_way_due")))),
 decide (PySem.W.keepIn K (.ref (He.ga K "_law_way_due"))=true),
 decide (PySem.W.nsIn K mainGlobals "shows_parted" = some (some (.ref (He.ga K "shows_parted")))),
 decide (PySem.W.keepIn K (.ref (He.ga K "shows_parted"))=true),
 decide (PySem.W.nsIn K mainGlobals "_law_parted_due" = some (some (.ref (He.ga K "_law_parted_due")))),
 decide (PySem.W.keepIn K (.ref (He.ga K "_law_parted_due"))=true),
 decide (PySem.W.nsIn K mainGlobals "_law_said" = some (some (.ref (He.ga K "_law_said")))),
 decide (PySem.W.keepIn K (.ref (He.ga K "_law_said"))=true),
 decide (PySem.W.nsIn K mainGlobals "_law_says" = some (some (.ref (He.ga K "_law_says")))),
 decide (PySem.W.keepIn K (.ref (He.ga K "_law_says"))=true),
 decide (PySem.W.nsIn K mainGlobals "_law_odd" = some (some (.ref (He.ga K "_law_odd")))),
 decide (PySem.W.keepIn K (.ref (He.ga K "_law_odd"))=true),
 decide (PySem.W.nsIn K mainGlobals "_law_bent_row" = some (some (.ref (He.ga K "_law_bent_row")))),
 decide (PySem.W.keepIn K (.ref (He.ga K "_law_bent_row"))=true),
 decide (PySem.W.nsIn K mainGlobals "_law_step" = some (some (.ref (He.ga K "_law_step")))),
 decide (PySem.W.keepIn K (.ref (He.ga K "_law_step"))=true),
 decide (PySem.W.nsIn K mainGlobals "_law_spoilt" = some (some (.ref (He.ga K "_law_spoilt")))),
 decide (PySem.W.keepIn K (.ref (He.ga K "_law_spoilt"))=true),
 decide (PySem.W.nsIn K mainGlobals "law" = some (some (.ref (He.ga K "law")))),
 decide (PySem.W.keepIn K (.ref (He.ga K "law"))=true),
 decide (PySem.W.nsIn K mainGlobals "len" = some none),
 decide (PySem.W.nsIn K mainGlobals "abs" = some none)]
def qz3 (K:PySem.W.Frag):List Bool:=[
 decide (PySem.W.nsIn K mainGlobals "int" = some none),
 decide (PySem.W.nsIn K mainGlobals "min" = some none),
 decide (PySem.W.nsIn K mainGlobals "range" = some none),
 decide (PySem.W.nsIn K mainGlobals "dict" = some none),
 decide (PySem.W.nsIn K mainGlobals "sorted" = some none),
 decide (PySem.W.nsIn K mainGlobals "enumerate" = some none),
 decide (PySem.W.nsIn K mainGlobals "tuple" = some none),
 decide (PySem.W.nsIn K mainGlobals "list" = some none),
 decide (PySem.W.nsIn K mainGlobals "isinstance" = some none),
 decide (PySem.W.nsIn K mainGlobals "bool" = some none),
 decide (PySem.W.nsIn K mainGlobals "str" = some none),
 decide (PySem.W.nsIn K mainGlobals "set" = some none),
 decide (PySem.W.nsIn K mainGlobals "all" = some none),
 decide (PySem.W.nsIn K mainGlobals "sum" = some none),
 decide (PySem.W.nsIn K mainGlobals "any" = some none)]
def cz0 (K:PySem.W.Frag):List Bool:=[(He.Fa.code ("_law_tape", none) "_law_tape").ok K,(He.Fa.code ("_law_draw", none) "_law_draw").ok K,(He.Fa.code ("_law_names", none) "_law_names").ok K,(He.Fa.code ("_law_turn", none) "_law_turn").ok K,(He.Fa.code ("_law_joinings", none) "_law_joinings").ok K,(He.Fa.code ("_law_classes", none) "_law_classes").ok K,(He.Fa.code ("_law_numbers", none) "_law_numbers").ok K,(He.Fa.code ("_law_straight", none) "_law_straight").ok K,(He.Fa.code ("_law_twinned", none) "_law_twinned").ok K,(He.Fa.code ("_law_counted", none) "_law_counted").ok K,(He.Fa.code ("_law_coming_out", none) "_law_coming_out").ok K,(He.Fa.code ("_law_round", none) "_law_round").ok K,(He.Fa.code ("_law_papers", none) "_law_papers").ok K,(He.Fa.code ("is_list", none) "is_list").ok K,(He.Fa.code ("is_row_of", none) "is_row_of").ok K,(He.Fa.code ("is_whole", none) "is_whole").ok K,(He.Fa.code ("is_named", none) "is_named").ok K,(He.Fa.code ("are_unlike", none) "are_unlike").ok K,(He.Fa.code ("are_some_of", none) "are_some_of").ok K,(He.Fa.code ("counted", none) "counted").ok K,(He.Fa.code ("shows_numbers", none) "shows_numbers").ok K,(He.Fa.code ("_law_is_int", none) "_law_is_int").ok K,(He.Fa.code ("_law_numbers_due", none) "_law_numbers_due").ok K,(He.Fa.code ("is_pair", none) "is_pair").ok K,(He.Fa.code ("is_way", none) "is_way").ok K,(He.Fa.code ("ends_by", none) "ends_by").ok K,(He.Fa.code ("passed", none) "passed").ok K,(He.Fa.code ("names_met", none) "names_met").ok K,(He.Fa.code ("steps_of", none) "steps_of").ok K,(He.Fa.code ("shows_ring", none) "shows_ring").ok K]
def cz1 (K:PySem.W.Frag):List Bool:=[(He.Fa.code ("_law_met", none) "_law_met").ok K,(He.Fa.code ("_law_walked", none) "_law_walked").ok K,(He.Fa.code ("_law_ring_due", none) "_law_ring_due").ok K,(He.Fa.code ("shows_way", none) "shows_way").ok K,(He.Fa.code ("_law_way_due", none) "_law_way_due").ok K,(He.Fa.code ("shows_parted", none) "shows_parted").ok K,(He.Fa.code ("_law_parted_due", none) "_law_parted_due").ok K,(He.Fa.code ("_law_said", none) "_law_said").ok K,(He.Fa.code ("_law_says", none) "_law_says").ok K,(He.Fa.code ("_law_odd", none) "_law_odd").ok K,(He.Fa.code ("_law_bent_row", none) "_law_bent_row").ok K,(He.Fa.code ("_law_step", none) "_law_step").ok K,(He.Fa.code ("_law_spoilt", none) "_law_spoilt").ok K,(He.Fa.code ("law", none) "law").ok K]
abbrev AlZ:Type:=List Bool × (List He.FnV × List (Option (List (Option (Str × Int)))))
def obZ (K:PySem.W.Frag):AlZ:=([(qz0 K).all id,(qz1 K).all id,(qz2 K).all id,(qz3 K).all id,(cz0 K).all id,(cz1 K).all id],(fz0++fz1).map (fun d=>He.fnObs K d.at_),[])
def valZ (w:World):AlZ:=([true,true,true,true,true,true],(fz0++fz1).map He.FnD.val,[])
def lz0:List PySem.Str:=["counted", "ends_by", "passed", "steps_of", "is_whole", "is_row_of", "is_list", "is_pair", "is_way", "names_met", "are_unlike", "is_named", "are_some_of", "shows_numbers", "shows_ring", "shows_way", "shows_parted", "_law_tape", "_law_draw", "_law_names"]
def lz1:List PySem.Str:=["_law_turn", "_law_joinings", "_law_counted", "_law_classes", "_law_numbers", "_law_met", "_law_odd", "_law_bent_row", "_law_step", "_law_spoilt", "_law_is_int", "_law_numbers_due", "_law_walked", "_law_ring_due", "_law_way_due", "_law_parted_due", "_law_straight", "_law_round", "_law_said", "_law_says"]
def lz2:List PySem.Str:=["_law_coming_out", "_law_twinned", "_law_papers"]
def loZ:List PySem.Str:=lz0++lz1++lz2
def asZ:List Addr:=[3,2,21,28,35,40,47,54,61,68,73,80,87,94,99,104,109,116,121,128]++[135,140,147,152,159,164,171,178,185,192,199,206,213,218,223,228,235,240,247,252]++[259,266,273,280,285,292]++List.range' 15 400
abbrev RZ:PySem.W.OpenRow:=PySem.W.OpenLaw.row PySem.Challenge.rw_joinback_k70_whole_papers_spoilt_anywher
abbrev qvZ:Program:=PySem.W.view RZ.prog [46]
abbrev hkZ:PySem.W.Hook:=JiF asZ obZ valZ
theorem runZ_false (w:World):HandSHeadRun.RunEq RZ qvZ hkZ (obT asZ obZ) 9000 loZ (w.withFollow "special-get-raises" false):=by
 intro os
 kernel_rfl
theorem runZ_true (w:World):HandSHeadRun.RunEq RZ qvZ hkZ (obT asZ obZ) 9000 loZ (w.withFollow "special-get-raises" true):=by
 intro os
 kernel_rfl
theorem runZ (w:World):HandSHeadRun.RunEq RZ qvZ hkZ (obT asZ obZ) 9000 loZ w:=PySem.W.byRow2 "special-get-raises" (P:=fun w=>HandSHeadRun.RunEq RZ qvZ hkZ (obT asZ obZ) 9000 loZ w) runZ_false runZ_true w
theorem Yc {K:PySem.W.Frag} {w:World} {d:He.FnD} (c2:(obZ K).2.1=(valZ w).2.1) (i:Nat) (h1:(obZ K).2.1[i]?=some (He.fnObs K d.at_)) (h2:(valZ w).2.1[i]?=some d.val) (c:(He.Fa.code d.at_ d.qual).ok K=true) :
  ∃oc od osl kV doc pm an cdv ct,K.lookup (He.fAd K d.at_)=some ⟨oc,od,.func (PySem.W.fnOf d.name d.qual d.params d.body d.scope .none kV doc pm an cdv ct),osl⟩∧PySem.W.codeIn K cdv d.qual=true:=by
 rw[c2,h2]at h1
 exact He.fn_ok (Option.some.inj h1).symm c
end VS
namespace VS
open PySem L2 SeqAt
def Tri (P:Env→Prop) (c:CS) (Q:Env→Prop):Prop:=∀env,P env→∃env',c env=.nx env'∧Q env'
theorem Ja5 {P Q R:Env→Prop} {c1 c2:CS} (h1:Tri P c1 R) (h2:Tri R c2 Q):Tri P (sSeq c1 c2) Q:=fun env h=>by
 obtain⟨e1,k1,k2⟩:=h1 env h
 obtain⟨e2,k3,k4⟩:=h2 e1 k2
 exact⟨e2,by rw[Jhx,k1];exact k3,k4⟩
theorem Jcf {α:Type} {f:α→D} {g:D→Env→Option Env} {body:CS} {P:List α→Env→Prop} {G:α→List α→Env→Prop} (hg:∀x xs env,P (x::xs) env→∃env1,g (f x) env=some env1∧G x xs env1) (hb:∀x xs,Tri (G x xs) body (P xs)) (xs:List α) :
  ∀env,P xs env→∃env',UH g body (xs.map f) env=.nx env'∧P [] env':=fun env h=>by
 refine QD P (fun x xs env h=>?_) xs env h
 obtain⟨e1,k1,k2⟩:=hg x xs env h
 obtain⟨e2,k3,k4⟩:=hb x xs e1 k2
 exact⟨e1,e2,k1,k3,k4⟩
abbrev Tp:=Int × Int
def tp (t:Tp):D:=.lst .m [.int t.1,.int t.2]
def drV (t:Tp) (m:Int):Int:=if 0 < t.1 then t.1 % m else ((t.2 * 48271+39373) % 2147483647 * ((t.2 * 48271+39373) % 2147483647 % 40009+7) % 2147483587) / 64 % m
def drT (t:Tp) (m:Int):Tp:=if 0 < t.1 then (t.1 / m,t.2) else (t.1,(t.2 * 48271+39373) % 2147483647)
theorem Zy {t:Tp} {m:Int} (h:0 < m):0≤drV t m:=by unfold drV;split<;>exact Int.emod_nonneg _ (by omega)
theorem UA {t:Tp} {m:Int} (h:0 < m):drV t m < m:=by unfold drV;split<;>exact Int.emod_lt_of_pos _ h
@[simp] theorem nol_tp (t:Tp):(tp t).nol=true:=rfl
@[simp] theorem Jhy (t:Tp):(tp t).imm=false:=rfl
theorem v_tape (ns:List Int) (k:Nat):∃t,Qr [.lst .l (ns.map D.int),.int k]=.ok (tp t) []:=by
 unfold Qr JO JcZ
 by_cases hk:k < ns.length
 ·have e:atI (ns.map D.int) (k:Int)=some (.int ns[k]):=by rw[Ze (by simpa using hk)];simp[hk]
  have hk':(k:Int) < ns.length:=by omega
  exact⟨(_,_),by simp[YF,UZ,Yf,hk,hk',e,tp];exact⟨rfl,rfl⟩⟩
 ·have hk':¬ (k:Int) < ns.length:=by omega
  exact⟨(_,_),by simp[YF,UZ,Yf,hk,hk',tp];exact⟨rfl,rfl⟩⟩
@[simp] theorem m4a (x:Int):-18446744073709551616 < x % 40009+7:=by omega
@[simp] theorem m4b (x:Int):x % 40009+7 < 18446744073709551616:=by omega
theorem YJ (t:Tp) {m:Int} (h:0 < m) (h2:m < 2 ^ 64):Jf [tp t,.int m]=.ok (.int (drV t m)) [tp (drT t m)]:=by
 unfold Jf JO Jda
 have h3:m < 18446744073709551616:=h2
 unfold drV drT
 by_cases ha:0 < t.1
 ·simp[YF,UZ,Yf,tp,ha,h,h3,stD,ixN,lVar,JaC]
 ·simp[YF,UZ,Yf,tp,ha,h,h3,stD,ixN,lVar,JaC]
def lit16:Str := "b aa zebra c quartzes ab m knows d mm likes z a ba abcdefgh y"
def JiR:List Str:=Txt.split lit16 " "
def UB (n:Str):Bool:=decide (1≤n.length) && decide (n.length≤8) && n.cps.toList.all fun c=>decide (c∈("abcdefghijklmnopqrstuvwxyz" : Str).cps.toList)
theorem nms16_facts:JiR.length=16∧JiR.Nodup∧(JiR.all UB)=true:=by decide +kernel
theorem v_split16:JdV (.str "b aa zebra c quartzes ab m knows d mm likes z a ba abcdefgh y") (.str " ")=some (.lst .m (JiR.map D.str)) :=
 if_pos (e:=none) (c:=((" " : Str).length == 0)=false∧lit16.length+2≤sizeLine) ⟨by decide +kernel,UY (by decide +kernel)⟩
structure NOk (ns:List Str):Prop where
 nd:ns.Nodup
 len:ns.length≤14
 ok:∀n∈ns,UB n=true
 lit:∀n∈ns,n∈JiR
theorem v_names (t:Tp):∃ns t',ZR [tp t]=.ok (.lst .m (ns.map D.str)) [tp t']∧NOk ns:=by
 obtain⟨f1,f2,f3⟩:=nms16_facts
 have hs:=v_split16
 generalize hws:JiR=ws at f1 f2 f3 hs
 have d16:=YJ t (m:=16) (by decide) (by decide)
 have q0:=Zy (t:=t) (m:=16) (by decide)
 generalize drV t 16=r1 at d16 q0
 generalize drT t 16=t1 at d16
 have d3:=YJ t1 (m:=3) (by decide) (by decide)
 have q1:=Zy (t:=t1) (m:=3) (by decide)
 have q2:=UA (t:=t1) (m:=3) (by decide)
 generalize drV t1 3=r2 at d3 q1 q2
 generalize drT t1 3=t2 at d3
 have d5:=YJ t2 (m:=5) (by decide) (by decide)
 have q3:=Zy (t:=t2) (m:=5) (by decide)
 have q4:=UA (t:=t2) (m:=5) (by decide)
 generalize drV t2 5=r3 at d5 q3 q4
 generalize drT t2 5=t3 at d5
 have d5':=YJ t3 (m:=5) (by decide) (by decide)
 have q5:=Zy (t:=t3) (m:=5) (by decide)
 have q6:=UA (t:=t3) (m:=5) (by decide)
 generalize drV t3 5=r4 at d5' q5 q6
 generalize drT t3 5=t4 at d5'
 have d8:=YJ t4 (m:=8) (by decide) (by decide)
 have q7:=Zy (t:=t4) (m:=8) (by decide)
 generalize drV t4 8=r5 at d8 q7
 generalize drT t4 8=t5 at d8
 have hmany:∃m:Int,atI [D.int r2,.int (10+r3),.int (4+r4)] (if r5 < 2 then r5 else 2)=some (.int m)∧0≤m∧m≤14:=by
  have:r5=0∨r5=1∨2≤r5:=by omega
  rcases this with h | h | h
  ·subst h;exact⟨r2,by simp,by omega,by omega⟩
  ·subst h;exact⟨10+r3,by simp,by omega,by omega⟩
  ·rw[if_neg (by omega)];exact⟨4+r4,by simp,by omega,by omega⟩
 obtain⟨m,hm,m0,m1⟩:=hmany
 have hr:=JcY m (by omega) (by omega)
 let ix:Nat→Nat:=fun k=>((r1+5 * (k:Int)) % 16).toNat
 have ixl:∀k,ix k < ws.length:=fun k=>by show ((r1+5 * (k:Int)) % 16).toNat < _;omega
 let y:D→D:=fun d=>match d with
  | .int k=>.str (ws.getD (ix k.toNat) Str.empty)
  | _=>.non
 have at5:∀k:Nat,atI (ws.map D.str) ((r1+5 * (k:Int)) % 16)=some (.str (ws.getD (ix k) Str.empty)):=fun k=>by
  have h0:0≤(r1+5 * (k:Int)) % 16:=Int.emod_nonneg _ (by decide)
  have e:(r1+5 * (k:Int)) % 16=((ix k:Nat):Int):=by show _=((((r1+5 * (k:Int)) % 16).toNat:Nat):Int);omega
  rw[e,Ze (by simpa using ixl k),List.getElem?_map,List.getD_eq_getElem?_getD,List.getElem?_eq_getElem (ixl k)];rfl
 have hc:=Jbq (vs:=[4]) (g:=gSet 4) (ce:=cImm (cIdx (cVar 1) (c2 pMod (c2 pAdd (cVar 2) (c2 QM (cK (.int 5)) (cVar 4))) (cK (.int 16))))) (env:=[some (tp t5),some (.lst .m (ws.map D.str)),some (.int r1),some (.int m),none])
  (y:=y) (ds:=(List.range m.toNat).map fun (i:Nat)=>D.int (i:Nat)) (by
   intro x hx
   obtain⟨k,hk,rfl⟩:=List.mem_map.mp hx
   refine⟨[some (tp t5),some (.lst .m (ws.map D.str)),some (.int r1),some (.int m),some (.int k)],by simp,rfl,?_,by simp⟩
   have e:y (.int k)=.str (ws.getD (ix k) Str.empty):=rfl
   rw[e]
   simp[at5 k])
 have hmap:((List.range m.toNat).map fun (i:Nat)=>D.int (i:Nat)).map y=((List.range m.toNat).map fun i=>ws.getD (ix i) Str.empty).map D.str:=by
  rw[List.map_map,List.map_map];rfl
 rw[hmap]at hc
 have hz:m.toNat≤sizeLine:=UY (by omega)
 refine⟨(List.range m.toNat).map fun i=>ws.getD (ix i) Str.empty,t5,?_,?_,by simp;omega,fun n hn=>?_,fun n hn=>?_⟩
 ·unfold ZR JO Jb5
  simp[YF,UZ,Yf,hs,d16,d3,d5,d5',d8,hm,hr,hz,hc]
 ·refine List.pairwise_map.mpr (List.Pairwise.imp_of_mem (R:=fun a b=>a < b) (fun {a b} ha hb hab=>?_) List.pairwise_lt_range)
  simp only[List.mem_range]at ha hb
  rw[List.getD_eq_getElem?_getD,List.getD_eq_getElem?_getD,List.getElem?_eq_getElem (ixl a),List.getElem?_eq_getElem (ixl b)]
  intro e
  have pw:=List.pairwise_iff_getElem.mp f2
  have e:ws[ix a]'(ixl a)=ws[ix b]'(ixl b):=by simpa using e
  have h1:ix a=ix b:=by
   rcases Nat.lt_trichotomy (ix a) (ix b) with z | z | z
   ·exact absurd e (pw _ _ (ixl a) (ixl b) z)
   ·exact z
   ·exact absurd e.symm (pw _ _ (ixl b) (ixl a) z)
  have h1:((r1+5 * (a:Int)) % 16).toNat=((r1+5 * (b:Int)) % 16).toNat:=h1
  omega
 ·obtain⟨i,_,rfl⟩:=List.mem_map.mp hn
  rw[List.getD_eq_getElem?_getD,List.getElem?_eq_getElem (ixl i)]
  exact List.all_eq_true.mp f3 _ (List.getElem_mem _)
 ·obtain⟨i,_,rfl⟩:=List.mem_map.mp hn
  rw[List.getD_eq_getElem?_getD,List.getElem?_eq_getElem (ixl i),hws]
  exact List.getElem_mem _
end VS
namespace VS
open PySem L2 SeqAt
theorem v_turn (t:Tp):∃z t',Qo [tp t]=.ok (.int z) [tp t']∧0≤z∧z≤1000:=by
 have e8:=YJ t (m:=8) (by decide) (by decide)
 have h0:=Zy (t:=t) (m:=8) (by decide)
 have h1:=UA (t:=t) (m:=8) (by decide)
 unfold Qo JO Jc6
 generalize hv:drV t 8=v at *
 have:v=0∨v=1∨v=2∨v=3∨v=4∨v=5∨v=6∨v=7:=by omega
 have s8:8≤sizeLine:=UY (by decide)
 rcases this with h | h | h | h | h | h | h | h<;>subst h<;>exact⟨_,_,by simp[YF,UZ,Yf,e8,s8,atI,ixN];exact⟨rfl,rfl⟩,by decide,by decide⟩
end VS
namespace VS
open PySem L2 SeqAt
abbrev Jn:=Str × Str × Int
def jt (j:Jn):D:=.tup [.str j.1,.str j.2.1,.int j.2.2]
def pt (p:Int × Int):D:=.tup [.int p.1,.int p.2]
@[simp] theorem imm_jt (j:Jn):(jt j).imm=true:=rfl
@[simp] theorem imm_pt (j:Int × Int):(pt j).imm=true:=rfl
@[simp] theorem lend_jt (j:Jn):(jt j).lend=jt j:=rfl
@[simp] theorem Jgr (j:Int × Int):(pt j).lend=pt j:=rfl
@[simp] theorem ZM:∀js:List Jn,imms (js.map jt)=true
 | []=>rfl
 | j::js=>by simp[ZM js]
@[simp] theorem ZO:∀js:List (Int × Int),imms (js.map pt)=true
 | []=>rfl
 | j::js=>by simp[ZO js]
@[simp] theorem Jaq:∀js:List Jn,lends (js.map jt)=js.map jt
 | []=>rfl
 | j::js=>by simp[Jaq js]
@[simp] theorem Jad:∀js:List (Int × Int),lends (js.map pt)=js.map pt
 | []=>rfl
 | j::js=>by simp[Jad js]
@[simp] theorem Zq:∀js:List Str,lends (js.map D.str)=js.map D.str
 | []=>rfl
 | j::js=>by simp[Zq js]
@[simp] theorem nol_jt (j:Jn):(jt j).nol=true:=rfl
@[simp] theorem nol_pt (j:Int × Int):(pt j).nol=true:=rfl
@[simp] theorem Jaz:∀js:List Jn,nols (js.map jt)=true
 | []=>rfl
 | j::js=>by simp[Jaz js]
@[simp] theorem Jek:∀js:List (Int × Int),nols (js.map pt)=true
 | []=>rfl
 | j::js=>by simp[Jek js]
@[simp] theorem Qv:∀js:List Str,nols (js.map D.str)=true
 | []=>rfl
 | j::js=>by simp[Qv js]
@[simp] theorem nols_ints:∀js:List Int,nols (js.map D.int)=true
 | []=>rfl
 | j::js=>by simp[nols_ints js]
inductive Hold {α:Type} (f:α→D) (js:List α):D→Prop
 | l:Hold f js (.lst .l (js.map f))
 | t:Hold f js (.tup (js.map f))
theorem JcK (n:Nat):∀js:List Jn,eqOks (n+1) (js.map jt)=true
 | []=>rfl
 | j::js=>by
  have:=JcK n js
  simp only[List.map_cons,eqOks,this,Bool.and_true];rfl
theorem Jh7 (g:Fl) (js:List Jn):pNe (.lst g (js.map jt)) (.lst .m [])=some (.bl (!js.isEmpty)):=by
 unfold pNe
 have h:eqOk 40 (.lst g (js.map jt))=true:=JcK 38 js
 have h2:eqOk 40 (.lst .m [])=true:=rfl
 rw[h,h2]
 cases js<;>rfl
structure JOk (ns:List Str) (js:List Jn):Prop where
 one:∀j∈js,j.1∈ns
 other:∀j∈js,j.2.1∈ns
 lo:∀j∈js,-1000000000000≤j.2.2
 hi:∀j∈js,j.2.2≤1000000000000
theorem JOk.snoc {ns:List Str} {js:List Jn} (h:JOk ns js) {x y:Str} {z:Int} (hx:x∈ns) (hy:y∈ns) (h1:-1000000000000≤z) (h2:z≤1000000000000):JOk ns (js++[(x,y,z)]):=by
 have go:∀{P:Jn→Prop},(∀j∈js,P j)→P (x,y,z)→∀j∈js++[(x,y,z)],P j:=fun h1 h2 j hj=>by
  rcases List.mem_append.mp hj with q | q
  ·exact h1 j q
  ·simp at q;subst q;exact h2
 exact⟨go h.one hx,go h.other hy,go h.lo h1,go h.hi h2⟩
theorem JgF {ns:List Str} {r:Int} (h0:0≤r) (h1:r < ns.length):∃s,s∈ns∧atI (ns.map D.str) r=some (.str s):=by
 obtain⟨x,m,_,e⟩:=Jdd (f:=D.str) h0 h1
 exact⟨x,m,e⟩
theorem JiQ {js:List Jn} {r:Int} (h0:0≤r) (h1:r < js.length):∃j,j∈js∧atI (js.map jt) r=some (jt j):=by
 obtain⟨x,m,_,e⟩:=Jdd (f:=jt) h0 h1
 exact⟨x,m,e⟩
theorem cut2 (x y z:D):cutD [x,y,z] none (some 2)=[x,y]:=(rfl)
theorem Jgz {P:Int→Prop}:∀{ns:List Str} {ys:List D},Paired (fun d y=>∃(s:Str) (n:Int),d=.str s∧y=.tup [.str s,.int n]∧P n) (ns.map D.str) ys →
  imms ys=true∧∃ps,Jau ys=some ps∧(∀p∈ps,∃n:Int,p.2=.int n∧P n)∧∀s∈ns,∃p∈ps,p.1=Sum.inr s
 | [],ys,h=>by cases h;exact⟨rfl,[],rfl,(fun _ z=>nomatch z),(fun _ z=>nomatch z)⟩
 | x::ns,ys,h=>by
  rw[List.map_cons]at h
  cases h with
  | cons h1 h2 =>
   obtain⟨s,n,e1,rfl,hp⟩:=h1
   cases e1
   obtain⟨i1,ps,i2,i3,i4⟩:=Jgz h2
   refine⟨by simp[i1],(Sum.inr x,.int n)::ps,by simp[Jau,D.key,i2],fun p hp'=>?_,fun s hs=>?_⟩
   ·rcases List.mem_cons.mp hp' with z | z
    ·subst z;exact⟨n,rfl,hp⟩
    ·exact i3 p z
   ·rcases List.mem_cons.mp hs with z | z
    ·subst z;exact⟨_,List.mem_cons_self,rfl⟩
    ·obtain⟨p,hp,e⟩:=i4 s z
     exact⟨p,List.mem_cons_of_mem _ hp,e⟩
end VS
namespace VS
open PySem L2 SeqAt
section
variable (ns:List Str) (t w sl:Int) (dk:D)
def JE (js:List J) (T:Tp) (o8 o9 o10 o11 o12:Option D):Env:=[some (tp T),some (.lst .l (ns.map D.str)),some (.int t),some (.lst .m (js.map jt)),some (.int w),some dk,none,some (.int sl),o8,o9,o10,o11,o12]
def JP (k:Nat) (env:Env):Prop:=∃js T o8 o9 o10 o11 o12,env=JE ns t w sl dk js T o8 o9 o10 o11 o12∧JOk ns js∧js.length=k
def JQ1 (k:Nat) (env:Env):Prop:=∃js T o8 o9 o10 x y,env=JE ns t w sl dk js T o8 o9 o10 (some (.str x)) (some (.str y))∧JOk ns js∧js.length=k∧x∈ns∧y∈ns
def JQ2 (k:Nat) (env:Env):Prop:=∃js T o8 r o10 x y,env=JE ns t w sl dk js T o8 (some (.int r)) o10 (some (.str x)) (some (.str y))∧JOk ns js∧js.length=k∧x∈ns∧y∈ns
def JQ3 (b:Int) (k:Nat) (env:Env):Prop:=∃js T o8 o9 z x y,env=JE ns t w sl dk js T o8 o9 (some (.int z)) (some (.str x)) (some (.str y))∧JOk ns js∧js.length=k∧x∈ns∧y∈ns∧-b≤z∧z≤b
variable {ns t w sl dk}
theorem v_join_step (h0:0 < ns.length) (h1:ns.length≤40) (ht:0≤t∧t≤1000) (hw:0 < w∧w≤400000000000) (hsl:0≤sl∧sl≤12) (hk:∀s∈ns,∃n:Int,ixD dk (.str s)=some (.int n)∧-w≤n∧n < w) {k:Nat} (hn:k≤100) :
  Tri (JP ns t w sl dk k) Qc (JP ns t w sl dk (k+1)):=by
 have hl0:(0:Int) < ns.length:=by omega
 have hl64:(ns.length:Int) < 2 ^ 64:=by omega
 have dn:=fun T=>YJ T hl0 hl64
 have q0:=fun T=>Zy (t:=T) hl0
 have q1:=fun T=>UA (t:=T) hl0
 have hb:-18446744073709551616 < t∧t < 18446744073709551616:=by omega
 unfold Qc
 refine Ja5 (R:=JQ1 ns t w sl dk k) ?_ (Ja5 (R:=JQ2 ns t w sl dk k) ?_ (Ja5 (R:=JQ2 ns t w sl dk k) ?_ (Ja5 (R:=JQ2 ns t w sl dk k) ?_ (Ja5 (R:=JQ2 ns t w sl dk k) ?_ (Ja5 (R:=JQ3 ns t w sl dk 810000000000 k) ?_ (Ja5 (R:=JQ3 ns t w sl dk 1000000000000 k) ?_ ?_))))))
 ·rintro env ⟨js,T,o8,o9,o10,o11,o12,rfl,hj,hl⟩
  obtain⟨x,m1,g1⟩:=JgF (q0 T) (q1 T)
  obtain⟨y,m2,g2⟩:=JgF (q0 (drT T ns.length)) (q1 (drT T ns.length))
  exact⟨JE ns t w sl dk js (drT (drT T ns.length) ns.length) o8 o9 o10 (some (.str x)) (some (.str y)),by unfold JE;simp[dn,g1,g2],_,_,_,_,_,_,_,rfl,hj,hl,m1,m2⟩
 ·rintro env ⟨js,T,o8,o9,o10,x,y,rfl,hj,hl,hx,hy⟩
  have d9:=YJ T (m:=9) (by decide) (by decide)
  exact⟨JE ns t w sl dk js (drT T 9) o8 (some (.int (drV T 9))) o10 (some (.str x)) (some (.str y)),by unfold JE;simp[d9],_,_,_,_,_,_,_,rfl,hj,hl,hx,hy⟩
 ·rintro env ⟨js,T,o8,r,o10,x,y,rfl,hj,hl,hx,hy⟩
  by_cases hr:r=0
  ·exact⟨JE ns t w sl dk js T o8 (some (.int r)) o10 (some (.str x)) (some (.str x)),by unfold JE;simp[hr],_,_,_,_,_,_,_,rfl,hj,hl,hx,hx⟩
  ·exact⟨JE ns t w sl dk js T o8 (some (.int r)) o10 (some (.str x)) (some (.str y)),by unfold JE;simp[hr],_,_,_,_,_,_,_,rfl,hj,hl,hx,hy⟩
 ·rintro env ⟨js,T,o8,r,o10,x,y,rfl,hj,hl,hx,hy⟩
  have hne:=Jh7 .m js
  by_cases hr:r=1∧js≠[]
  ·have hje:js.isEmpty=false:=by simpa using hr.2
   have hjl:(0:Int) < js.length:=by have:=List.length_pos_iff.mpr hr.2;omega
   have d4:=YJ T hjl (by omega)
   obtain⟨j,hm,g⟩:=JiQ (Zy (t:=T) hjl) (UA (t:=T) hjl)
   rw[hje]at hne
   exact⟨JE ns t w sl dk js (drT T js.length) o8 (some (.int r)) o10 (some (.str j.1)) (some (.str j.2.1)),by unfold JE;simp[hr.1,hne,d4,g,jt,cut2],_,_,_,_,_,_,_,rfl,hj,hl,hj.one j hm,hj.other j hm⟩
  ·refine⟨JE ns t w sl dk js T o8 (some (.int r)) o10 (some (.str x)) (some (.str y)),?_,_,_,_,_,_,_,_,rfl,hj,hl,hx,hy⟩
   by_cases h1:r=1
   ·have:js=[]:=Classical.byContradiction fun z=>hr ⟨h1,z⟩
    subst this;unfold JE
    simp only[List.map_nil,List.isEmpty_nil]at hne
    simp[h1,hne]
   ·unfold JE;simp[h1]
 ·rintro env ⟨js,T,o8,r,o10,x,y,rfl,hj,hl,hx,hy⟩
  have hne:=Jh7 .m js
  by_cases hr:r=2∧js≠[]
  ·have hje:js.isEmpty=false:=by simpa using hr.2
   have hjl:(0:Int) < js.length:=by have:=List.length_pos_iff.mpr hr.2;omega
   have d4:=YJ T hjl (by omega)
   obtain⟨j,hm,g⟩:=JiQ (Zy (t:=T) hjl) (UA (t:=T) hjl)
   rw[hje]at hne
   exact⟨JE ns t w sl dk js (drT T js.length) o8 (some (.int r)) o10 (some (.str j.2.1)) (some (.str j.1)),by unfold JE;simp[hr.1,hne,d4,g,jt,cut2],_,_,_,_,_,_,_,rfl,hj,hl,hj.other j hm,hj.one j hm⟩
  ·refine⟨JE ns t w sl dk js T o8 (some (.int r)) o10 (some (.str x)) (some (.str y)),?_,_,_,_,_,_,_,_,rfl,hj,hl,hx,hy⟩
   by_cases h1:r=2
   ·have:js=[]:=Classical.byContradiction fun z=>hr ⟨h1,z⟩
    subst this;unfold JE
    simp only[List.map_nil,List.isEmpty_nil]at hne
    simp[h1,hne]
   ·unfold JE;simp[h1]
 ·rintro env ⟨js,T,o8,r,o10,x,y,rfl,hj,hl,hx,hy⟩
  obtain⟨nx,k1,a1,a2⟩:=hk x hx
  obtain⟨ny,k2,b1,b2⟩:=hk y hy
  have d5:=YJ T (m:=5) (by decide) (by decide)
  have z0:=Zy (t:=T) (m:=5) (by decide)
  have z1:=UA (t:=T) (m:=5) (by decide)
  have e1:-2000≤t * (drV T 5 - 2):=by have:=Int.mul_le_mul_of_nonneg_left (show -2≤drV T 5 - 2 by omega) ht.1;omega
  have e2:t * (drV T 5 - 2)≤2000:=by have:=Int.mul_le_mul_of_nonneg_left (show drV T 5 - 2≤2 by omega) ht.1;omega
  exact⟨JE ns t w sl dk js (drT T 5) o8 (some (.int r)) (some (.int (ny - nx+t * (drV T 5 - 2)))) (some (.str x)) (some (.str y)),by unfold JE;simp[k1,k2,d5,hb],_,_,_,_,_,_,_,rfl,hj,hl,hx,hy,by omega,by omega⟩
 ·rintro env ⟨js,T,o8,o9,z,x,y,rfl,hj,hl,hx,hy,z1,z2⟩
  by_cases hs:0 < sl
  ·have d6:=YJ T hs (by omega)
   by_cases hr:drV T sl=0
   ·have d7:=YJ (drT T sl) (m:=4) (by decide) (by decide)
    have y0:=Zy (t:=drT T sl) (m:=4) (by decide)
    have y1:=UA (t:=drT T sl) (m:=4) (by decide)
    obtain⟨u,hu,u1,u2⟩:∃u:Int,atI [D.int 1,.int (-1),.int 2,.int 100000000000] (drV (drT T sl) 4)=some (.int u)∧-1≤u∧u≤100000000000:=by
     generalize drV (drT T sl) 4=r7 at *
     have:r7=0∨r7=1∨r7=2∨r7=3:=by omega
     rcases this with h | h | h | h<;>subst h<;>exact⟨_,rfl,by decide,by decide⟩
    exact⟨JE ns t w sl dk js (drT (drT T sl) 4) o8 o9 (some (.int (z+u))) (some (.str x)) (some (.str y)),by unfold JE;simp[hs,d6,hr,d7,hu],_,_,_,_,_,_,_,rfl,hj,hl,hx,hy,by omega,by omega⟩
   ·exact⟨JE ns t w sl dk js (drT T sl) o8 o9 (some (.int z)) (some (.str x)) (some (.str y)),by unfold JE;simp[hs,d6,hr],_,_,_,_,_,_,_,rfl,hj,hl,hx,hy,by omega,by omega⟩
  ·exact⟨JE ns t w sl dk js T o8 o9 (some (.int z)) (some (.str x)) (some (.str y)),by unfold JE;simp[hs],_,_,_,_,_,_,_,rfl,hj,hl,hx,hy,by omega,by omega⟩
 ·rintro env ⟨js,T,o8,o9,z,x,y,rfl,hj,hl,hx,hy,z1,z2⟩
  have hlen:js.length < sizeLine:=QS (by omega)
  exact⟨JE ns t w sl dk (js++[(x,y,z)]) T o8 o9 (some (.int z)) (some (.str x)) (some (.str y)),by unfold JE;simp[hlen,jt],_,_,_,_,_,_,_,rfl,hj.snoc hx hy z1 z2,by simp[hl]⟩
end
theorem v_joinings (T:Tp) {ns:List Str} {t:Int} (h1:ns.length≤40) (ht:0≤t∧t≤1000):∃js T',Un [tp T,.lst .l (ns.map D.str),.int t]=.ok (.lst .m (js.map jt)) [tp T']∧JOk ns js∧js.length≤80:=by
 have e1:=YJ T (m:=6) (by decide) (by decide)
 have p1:=Zy (t:=T) (m:=6) (by decide)
 have q1:=UA (t:=T) (m:=6) (by decide)
 obtain⟨w,w1,w2,w3⟩:∃w:Int,atI [D.int 3,.int 3,.int 12,.int 12,.int 12,.int 400000000000] (drV T 6)=some (.int w)∧0 < w∧w≤400000000000:=by
  generalize drV T 6=r1 at *
  have:r1=0∨r1=1∨r1=2∨r1=3∨r1=4∨r1=5:=by omega
  rcases this with h | h | h | h | h | h<;>subst h<;>exact⟨_,rfl,by decide,by decide⟩
 have hc:=JiD (vs:=[6]) (g:=gSet 6) (ce:=cTup (Jb (cGet 6) (Jb (c2 pSub (Jo Jf (aOw (cMv 0) (some 0) (aRo (c2 QM (cK (.int 2)) (cVar 4)) aNil))) (cVar 4)) cNil)))
  (Iv:=fun env=>∃T,env=[some (tp T),some (.lst .l (ns.map D.str)),some (.int t),some (.lst .m []),some (.int w),none,none,none,none,none,none,none,none])
  (Y:=fun d y=>∃(s:Str) (n:Int),d=.str s∧y=.tup [.str s,.int n]∧(-w≤n∧n < w)) (ds:=ns.map D.str) (env:=[some (tp (drT T 6)),some (.lst .l (ns.map D.str)),some (.int t),some (.lst .m []),some (.int w),none,none,none,none,none,none,none,none]) ⟨_,rfl⟩ (by
   rintro d hd env ⟨T,rfl⟩
   obtain⟨s,hs,rfl⟩:=List.mem_map.mp hd
   have e2:=YJ T (m:=2 * w) (by omega) (by omega)
   have p2:=Zy (t:=T) (m:=2 * w) (by omega)
   have q2:=UA (t:=T) (m:=2 * w) (by omega)
   refine⟨[some (tp T),some (.lst .l (ns.map D.str)),some (.int t),some (.lst .m []),some (.int w),none,some (.str s),none,none,none,none,none,none],.tup [.str s,.int (drV T (2 * w) - w)],
    [some (tp (drT T (2 * w))),some (.lst .l (ns.map D.str)),some (.int t),some (.lst .m []),some (.int w),none,some (.str s),none,none,none,none,none,none],rfl,rfl,?_,⟨s,_,rfl,rfl,by omega,by omega⟩,_,rfl⟩
   have hb:w < 18446744073709551616:=by omega
   have hb2:-18446744073709551616 < w:=by omega
   simp[e2,hb,hb2])
 obtain⟨ys,env2,k1,⟨T2,rfl⟩,k3⟩:=hc
 obtain⟨i1,ps,i2,i3,i4⟩:=Jgz (P:=fun n=>-w≤n∧n < w) k3
 have hd:Jd1 [.lst .m ys]=some (.dct .m (mkD ps).1 (mkD ps).2):=by
  show (if imms ys=true then (Jau ys).map _ else none)=_
  rw[if_pos i1,i2];rfl
 have hk:∀s∈ns,∃n:Int,ixD (.dct .m (mkD ps).1 (mkD ps).2) (.str s)=some (.int n)∧-w≤n∧n < w:=fun s hs=>by
  obtain⟨p,hp,e⟩:=i4 s hs
  obtain⟨x,hx,n,rfl,hn⟩:=mk_look (P:=fun x=>∃n:Int,x=.int n∧(-w≤n∧n < w)) i3 p hp
  rw[e]at hx
  exact⟨n,hx,hn⟩
 generalize D.dct .m (mkD ps).1 (mkD ps).2=dk at hd hk
 have e3:=YJ T2 (m:=4) (by decide) (by decide)
 have p3:=Zy (t:=T2) (m:=4) (by decide)
 have q3:=UA (t:=T2) (m:=4) (by decide)
 obtain⟨sl,s1,s2,s3⟩:∃sl:Int,atI [D.int 0,.int 0,.int 3,.int 12] (drV T2 4)=some (.int sl)∧0≤sl∧sl≤12:=by
  generalize drV T2 4=r3 at *
  have:r3=0∨r3=1∨r3=2∨r3=3:=by omega
  rcases this with h | h | h | h<;>subst h<;>exact⟨_,rfl,by decide,by decide⟩
 have e4:=YJ (drT T2 4) (m:=2 * ns.length+1) (by omega) (by omega)
 have p4:=Zy (t:=drT T2 4) (m:=2 * ns.length+1) (by omega)
 have q4:=UA (t:=drT T2 4) (m:=2 * ns.length+1) (by omega)
 generalize drV (drT T2 4) (2 * ns.length+1)=r4 at e4 p4 q4
 have hr:=JcY r4 (by omega) (by omega)
 have hloop:=Jcf (f:=fun i:Nat=>D.int (i:Nat)) (g:=gSet 8) (body:=Qc) (P:=fun rest env=>∃k,JP ns t w sl dk k env∧k+rest.length=r4.toNat) (G:=fun _ rest env=>∃k,JP ns t w sl dk k env∧k+rest.length+1=r4.toNat)
  (fun x xs env ⟨k,⟨js,T,o8,o9,o10,o11,o12,e,hj,hl⟩,hk'⟩=>⟨env.set 8 (some (.int x)),rfl,k,⟨js,T,some (.int x),o9,o10,o11,o12,by rw[e];rfl,hj,hl⟩,by simp at hk';omega⟩)
  (fun x xs env ⟨k,hp,hk'⟩=>by
   obtain⟨env',a1,a2⟩:=v_join_step (by omega) h1 ht ⟨w2,w3⟩ ⟨s2,s3⟩ hk (k:=k) (by omega) env hp
   exact⟨env',a1,k+1,a2,by omega⟩) (List.range r4.toNat) (JE ns t w sl dk [] (drT (drT T2 4) (2 * ns.length+1)) none none none none none) ⟨0,⟨[],_,_,_,_,_,_,rfl,⟨fun _ z=>(nomatch z),fun _ z=>(nomatch z),fun _ z=>(nomatch z),fun _ z=>(nomatch z)⟩,rfl⟩,by simp⟩
 obtain⟨env3,f1,k,⟨js,T5,o8,o9,o10,o11,o12,rfl,hj,hl⟩,hkk⟩:=hloop
 refine⟨js,T5,?_,hj,by simp at hkk;omega⟩
 have hz:ns.length≤sizeLine:=UY (by omega)
 unfold Un JO Jbh
 unfold JE at f1
 simp only[List.map_nil]at f1
 simp[YF,UZ,Yf,e1,w1,hz,k1,hd,e3,s1,e4,hr,f1]
end VS
namespace VS
open PySem L2 SeqAt
theorem JbX {α:Type} {f:α→D} {vs:List Nat} {g:D→Env→Option Env} {ct:CT} {ce:CE} {env:Env} {y:α→D} {t:α→Bool}:∀{xs:List α},(∀x∈xs,∃env1,g (f x) env=some env1∧env1.length=env.length∧ct env1=.ok (t x) env1∧(t x=true→ce env1=.ok (y x) env1)∧Ur env1 vs=env) →
  QP vs g ct ce (xs.map f) env=some ((xs.filter t).map y,env)
 | [],_=>rfl
 | d::ds,h=>by
  obtain⟨env1,h1,h2,h3,h4,h5⟩:=h d (by simp)
  have ih:=JbX (f:=f) (vs:=vs) (g:=g) (ct:=ct) (ce:=ce) (env:=env) (y:=y) (t:=t) (xs:=ds) fun d hd=>h d (by simp[hd])
  rw[List.map_cons]
  unfold QP
  cases ht:t d with
  | true=>rw[ht]at h3;simp[h1,h2,h3,h4 ht,h5,ih,ht]
  | false=>rw[ht]at h3;simp[h1,h2,h3,h5,ih,ht]
theorem Jbx {α:Type} {f:α→D} {vs:List Nat} {g:D→Env→Option Env} {ce:CE} {env:Env} {y:α→D} {xs:List α} (h:∀x∈xs,∃env1,g (f x) env=some env1∧env1.length=env.length∧ce env1=.ok (y x) env1∧Ur env1 vs=env) :
  QP vs g cYes ce (xs.map f) env=some (xs.map y,env):=by
 have:=JbX (f:=f) (vs:=vs) (g:=g) (ct:=cYes) (ce:=ce) (env:=env) (y:=y) (t:=fun _=>true) (xs:=xs) fun x hx=>by
  obtain⟨env1,h1,h2,h3,h4⟩:=h x hx
  exact⟨env1,h1,h2,rfl,fun _=>h3,h4⟩
 rw[this,List.filter_eq_self.mpr fun _ _=>rfl]
theorem Jk {c1 c2:CS} {env env1:Env} {o:O} (h1:c1 env=.nx env1) (h2:c2 env1=o):sSeq c1 c2 env=o:=by rw[Jhx,h1];exact h2
theorem JN {n:Nat} {io:List Bool} {b:CS} {ds os:List D} {d:D} {env env0:Env} (h1:ds.length=io.length∧io.length≤n) (h0:YF n ds=env0) (hb:b env0=.rt d env) (ho:Yf io env=some os):JO n io b ds=.ok d os:=by
 unfold JO
 rw[if_pos h1,h0,hb]
 simp[UZ,ho]
mutual
theorem pyEq_refl:∀{n:Nat} {d:D},eqOk n d=true→pyEq d d=true
 | _,.non,_=>by unfold pyEq;rfl
 | _,.bl b,_=>by unfold pyEq;simp
 | _,.int i,_=>by unfold pyEq;simp
 | _,.str s,_=>by unfold pyEq;simp
 | n+1,.lst g ds,h=>by unfold eqOk at h;unfold pyEq;exact pyEqs_refl h
 | n+1,.tup ds,h=>by unfold eqOk at h;unfold pyEq;exact pyEqs_refl h
 | 0,.lst g ds,h=>by simp[eqOk]at h
 | 0,.tup ds,h=>by simp[eqOk]at h
 | _,.ty _,h=>by simp[eqOk]at h
 | _,.dct _ _ _,h=>by simp[eqOk]at h
 | _,.obj _ _ _ _,h=>by simp[eqOk]at h
theorem pyEqs_refl:∀{n:Nat} {ds:List D},eqOks n ds=true→pyEqs ds ds=true
 | _,[],_=>by unfold pyEqs;rfl
 | n,d::ds,h=>by
  unfold eqOks at h
  have:=Bool.and_eq_true_iff.mp h
  unfold pyEqs
  rw[pyEq_refl this.1,pyEqs_refl this.2];rfl
end
theorem Jfe {α:Type} (f:α→D):∀(k:Nat) (xs:List α),numD k (xs.map f)=(xs.zipIdx k).map fun p=>D.tup [.int (p.2:Nat),f p.1]
 | _,[]=>rfl
 | k,n::ns=>by simp[numD,Jfe f (k+1) ns]
end VS
namespace VS
open PySem L2 SeqAt
structure Sh (w k:Nat) (y:PyData):Prop where
 l:y.leavesShort 24=true
 s:y.showable=true
 w:y.weight≤w
 d:y.depth≤k
end VS
namespace VS
open PySem L2 SeqAt
def pln:Nat→D→Bool
 | 0,_=>false
 | n+1,.non=>true
 | n+1,.bl _=>true
 | n+1,.int _=>true
 | n+1,.str _=>true
 | n+1,.tup ds=>decide (ds.length≤1000000) && ds.all (pln n)
 | n+1,.lst .l ds=>decide (ds.length≤1000000) && ds.all (pln n)
 | _,_=>false
theorem Zh {ds:List D} (h:∀d∈ds,d.imm=true):imms ds=true:=by rw[Jcl,List.all_eq_true];exact h
theorem JbY:∀{ds:List D},(∀d∈ds,d.lend=d)→lends ds=ds
 | [],_=>rfl
 | d::ds,h=>by
  have ih:=JbY (ds:=ds) fun d hd=>h d (List.mem_cons_of_mem _ hd)
  simp[h d (by simp),ih]
theorem ZU {ds:List D} (h:∀d∈ds,d.nol=true):nols ds=true:=by
 induction ds with
 | nil=>rfl
 | cons d ds ih =>
  show (d.nol && nols ds)=true
  rw[h d (by simp),ih fun x hx=>h x (by simp[hx])];rfl
theorem Yw:∀{n:Nat} {d:D},pln n d=true→d.imm=true∧d.lend=d
 | 0,_,h=>by simp[pln]at h
 | n+1,d,h=>by
  have hs:∀ds:List D,ds.all (pln n)=true→imms ds=true∧lends ds=ds:=fun ds h =>
   ⟨Zh fun d hd=>(Yw (List.all_eq_true.mp h d hd)).1,JbY fun d hd=>(Yw (List.all_eq_true.mp h d hd)).2⟩
  cases d with
  | tup ds=>simp only[pln,Bool.and_eq_true]at h;have:=hs ds h.2;simp[this]
  | lst g ds=>cases g<;>simp only[pln,Bool.and_eq_true]at h<;>first | (cases h;done) | (have:=hs ds h.2;simp[this])
  | non=>simp
  | bl b=>simp
  | int b=>simp
  | str b=>simp
  | _=>simp[pln]at h
def isW:D→Bool
 | .int _=>true
 | _=>false
def isR (k:Nat):D→Bool
 | .tup ds=>ds.length == k
 | _=>false
def isL:D→Bool
 | .tup _=>true
 | .lst _ _=>true
 | _=>false
def isT:D→Bool
 | .tup _=>true
 | _=>false
def isS:D→Bool
 | .str _=>true
 | _=>false
section
variable {n:Nat} {d:D}
theorem pi_tup (h:pln n d=true):pIsi [d,.ty "tuple"]=some (.bl (isT d)):=by
 cases n with
 | zero=>simp[pln]at h
 | succ n=>cases d<;>first | rfl | (simp[pln]at h)
theorem Jgk (h:pln n d=true):pIsi [d,.ty "str"]=some (.bl (isS d)):=by
 cases n with
 | zero=>simp[pln]at h
 | succ n=>cases d<;>first | rfl | (simp[pln]at h)
theorem JhF (h:pln n d=true):pIsi [d,.tup [.ty "list", .ty "tuple"]]=some (.bl (isL d)):=by
 cases n with
 | zero=>simp[pln]at h
 | succ n=>cases d<;>first | rfl | (simp[pln]at h)
theorem Jfo (h:pln n d=true):cAnd (cL pIsi (Jb (cVar 0) (Jb (cK (.ty "int")) cNil))) (cNot (cL pIsi (Jb (cVar 0) (Jb (cK (.ty "bool")) cNil)))) [some d]=.ok (.bl (isW d)) [some d]:=by
 cases n with
 | zero=>simp[pln]at h
 | succ n=>cases d<;>first | rfl | (simp[pln]at h)
theorem JgS (h:pln n d=true):∃m,n=m+1:=by
 cases n with
 | zero=>simp[pln]at h
 | succ n=>exact⟨n,rfl⟩
theorem JaF {ds:List D} (h:pln n (.tup ds)=true):ds.length≤1000000∧∀x∈ds,pln (n - 1) x=true:=by
 obtain⟨m,rfl⟩:=JgS h
 simp only[pln,Bool.and_eq_true,decide_eq_true_eq,List.all_eq_true]at h
 exact h
theorem pln_lst {g:Fl} {ds:List D} (h:pln n (.lst g ds)=true):g=.l∧ds.length≤1000000∧∀x∈ds,pln (n - 1) x=true:=by
 obtain⟨m,rfl⟩:=JgS h
 cases g<;>simp only[pln,Bool.and_eq_true,decide_eq_true_eq,List.all_eq_true]at h<;>first | (cases h;done) | exact⟨rfl,h⟩
theorem JbU (h:pln n d=true):Ub [d]=.ok (.bl (isW d)) []:=by
 have:=Jfo h
 unfold Ub JO JbT
 simp[-JgU,-JiC,YF,UZ,Yf,this]
theorem JcX (h:pln n d=true) (k:Nat):Yt [d,.int k]=.ok (.bl (isR k d)) []:=by
 have t:=pi_tup h
 unfold Yt JO Jbw
 cases d with
 | tup ds =>
  have hz:=(JaF h).1
  have hz:ds.length≤sizeLine:=Yh hz
  have eb:((ds.length:Int) == (k:Int))=(ds.length == k):=by
   rw[Bool.eq_iff_iff,beq_iff_eq,beq_iff_eq];omega
  simp[YF,UZ,Yf,t,isT,isR,hz,eb]
 | _=>simp[YF,UZ,Yf,t,isT,isR]
theorem Jev (h:pln n d=true):UX [d]=.ok (.bl (isL d)) []:=by
 have t:=JhF h
 unfold UX JO Jex
 simp[YF,UZ,Yf,t]
end
end VS
namespace VS
open PySem L2 SeqAt
def dN (g:Fl) (td:List Str) (o:Str→Int):D:=.dct g (td.map Sum.inr) (td.map fun m=>D.int (o m))
def upI (r:Str→Int) (n:Str) (x:Int):Str→Int:=fun m=>if m=n then x else r m
theorem Zr:∀{xs ys:List Str},xs.Nodup→(∀x∈xs,x∈ys)→xs.length≤ys.length
 | [],_,_,_=>by simp
 | x::xs,ys,h,hs=>by
  have hx:x∈ys:=hs x (by simp)
  have nd:=List.nodup_cons.mp h
  have ih:=Zr (ys:=ys.erase x) nd.2 fun y hy=>(List.mem_erase_of_ne (fun (e:y=x)=>nd.1 (e ▸ hy))).mpr (hs y (by simp[hy]))
  rw[List.length_erase_of_mem hx]at ih
  have:0 < ys.length:=List.length_pos_of_mem hx
  simp only[List.length_cons];omega
theorem Jcb {ct:CT} {a b:CS} {env env1:Env} {o:O} (h:ct env=.ok true env1) (h2:a env1=o):sIf ct a b env=o:=by
 simp[h,h2]
theorem Jcp {ct:CT} {a b:CS} {env env1:Env} {o:O} (h:ct env=.ok false env1) (h2:b env1=o):sIf ct a b env=o:=by
 simp[h,h2]
theorem JeY {α:Type} {f:α→D} {g:D→Env→Option Env} {body:CS} (P:List α→Env→Prop) (Q:D→Env→Prop) (h:∀x xs env,P (x::xs) env→∃env1,g (f x) env=some env1∧((∃env2,body env1=.nx env2∧P xs env2)∨(∃r env2,body env1=.rt r env2∧Q r env2))) :
  ∀(xs:List α) (env:Env),P xs env→(∃env',UH g body (xs.map f) env=.nx env'∧P [] env')∨(∃r env',UH g body (xs.map f) env=.rt r env'∧Q r env')
 | [],env,h0=>.inl ⟨env,rfl,h0⟩
 | x::xs,env,h0=>by
  obtain⟨env1,h1,h2⟩:=h x xs env h0
  rcases h2 with ⟨env2,b,p⟩ | ⟨r,env2,b,q⟩
  ·rcases JeY P Q h xs env2 p with ⟨env',k1,k2⟩ | ⟨r,env',k1,k2⟩
   ·exact .inl ⟨env',(Ja4 h1 b).trans k1,k2⟩
   ·exact .inr ⟨r,env',(Ja4 h1 b).trans k1,k2⟩
  ·exact .inr ⟨r,env2,Jia h1 b,q⟩
theorem JiB {t:Int} (h0:0≤t) (h1:t≤1000) (n:Int):Zs [.int t,.int n]=.ok (.int (cnt t n)) []:=by
 unfold Zs JO JeD cnt
 by_cases h:t=0
 ·subst h;simp[YF,UZ,Yf]
 ·have h2:0 < t:=by omega
  have h3:t < 18446744073709551616:=by omega
  simp[YF,UZ,Yf,h,h2,h3]
theorem Jgj {t:Int} (h0:0≤t) (h1:t≤1000) (n:Int):Ya [.int t,.int n]=.ok (.int (cnt t n)) []:=by
 unfold Ya JO Jbn cnt
 by_cases h:t=0
 ·subst h;simp[YF,UZ,Yf]
 ·have h2:0 < t:=by omega
  have h3:t < 18446744073709551616:=by omega
  have h4:-18446744073709551616 < t:=by omega
  have e:n - n / t * t=n % t:=by rw[Int.mul_comm,Int.emod_def]
  simp[YF,UZ,Yf,h,h2,h3,h4,e]
end VS
namespace VS
open PySem L2 SeqAt
def rowD (r:List Str):D:=.lst .m (r.map D.str)
def addP (f:Str→Str) (ps:List (Str × List Str)) (n:Str):List (Str × List Str) :=
 if ps.any (fun p=>decide (f p.1=f n)) then ps.map fun p=>if f p.1=f n then (p.1,p.2++[n]) else p else ps++[(n,[n])]
structure RowI (f:Str→Str) (ps:List (Str × List Str)) (done:List Str):Prop where
 nd:(ps.map fun p=>f p.1).Nodup
 hd:∀p∈ps,p.1∈done
 len:ps.length≤done.length
 row:∀p∈ps,p.2=done.filter fun m=>decide (f m=f p.1)
 cov:∀m∈done,∃p∈ps,f p.1=f m
theorem RowI.add {f:Str→Str} {ps:List (Str × List Str)} {done:List Str} (w:RowI f ps done) (n:Str):RowI f (addP f ps n) (done++[n]):=by
 unfold addP
 by_cases h:ps.any (fun p=>decide (f p.1=f n))=true
 ·rw[if_pos h]
  obtain⟨p0,hp0,e0⟩:=List.any_eq_true.mp h
  simp only[decide_eq_true_eq]at e0
  have hk:∀p:Str × List Str,(if f p.1=f n then (p.1,p.2++[n]) else p).1=p.1:=fun p=>by split<;>rfl
  refine⟨?_,fun q hq=>?_,by simp;have:=w.len;omega,fun q hq=>?_,fun m hm=>?_⟩
  ·rw[List.map_map]
   have:((fun p:Str × List Str=>f p.1)∘fun p=>if f p.1=f n then (p.1,p.2++[n]) else p)=fun p=>f p.1:=by funext p;simp only[Function.comp];rw[hk]
   rw[this];exact w.nd
  ·obtain⟨p,hp,rfl⟩:=List.mem_map.mp hq
   rw[hk];exact List.mem_append_left _ (w.hd p hp)
  ·obtain⟨p,hp,rfl⟩:=List.mem_map.mp hq
   rw[hk,List.filter_append,←w.row p hp]
   by_cases e:f p.1=f n
   ·simp[e]
   ·have e':¬ f n=f p.1:=fun z=>e z.symm
    simp[e,e']
  ·rcases List.mem_append.mp hm with hm | hm
   ·obtain⟨p,hp,e⟩:=w.cov m hm
    exact⟨_,List.mem_map.mpr ⟨p,hp,rfl⟩,by rw[hk];exact e⟩
   ·simp at hm;subst hm
    exact⟨_,List.mem_map.mpr ⟨p0,hp0,rfl⟩,by rw[hk];exact e0⟩
 ·rw[if_neg h]
  have hn:∀p∈ps,f p.1≠f n:=fun p hp e=>h (List.any_eq_true.mpr ⟨p,hp,by simpa using e⟩)
  refine⟨?_,fun q hq=>?_,by simp;exact w.len,fun q hq=>?_,fun m hm=>?_⟩
  ·rw[List.map_append,List.nodup_append]
   refine⟨w.nd,by simp,fun a ha b hb=>?_⟩
   obtain⟨p,hp,rfl⟩:=List.mem_map.mp ha
   simp at hb;subst hb;exact hn p hp
  ·rcases List.mem_append.mp hq with hq | hq
   ·exact List.mem_append_left _ (w.hd q hq)
   ·simp at hq;subst hq;simp
  ·rcases List.mem_append.mp hq with hq | hq
   ·have e':¬ f n=f q.1:=fun z=>hn q hq z.symm
    rw[List.filter_append,←w.row q hq];simp[e']
   ·simp at hq;subst hq
    have:done.filter (fun m=>decide (f m=f n))=[]:=by
     rw[List.filter_eq_nil_iff]
     intro m hm
     obtain⟨p,hp,e⟩:=w.cov m hm
     simp;exact fun z=>hn p hp (e.trans z)
    rw[List.filter_append,this];simp
  ·rcases List.mem_append.mp hm with hm | hm
   ·obtain⟨p,hp,e⟩:=w.cov m hm
    exact⟨p,List.mem_append_left _ hp,e⟩
   ·simp at hm;subst hm
    exact⟨(m,[m]),by simp,rfl⟩
theorem RowI.fold {f:Str→Str}:∀(xs:List Str) {ps:List (Str × List Str)} {done:List Str},RowI f ps done→RowI f (xs.foldl (addP f) ps) (done++xs)
 | [],_,_,w=>by simpa using w
 | x::xs,ps,done,w=>by
  have:=RowI.fold xs (w.add x)
  simpa using this
theorem Jhu (r:List Str):(rowD r).py=some (.list (r.map PyData.str)):=by
 simp[rowD,D.py,Jei]
theorem JbI:∀r q:List Str,PySem.W.alikeAll (r.map PyData.str) (q.map PyData.str)=true
 | [],_=>by simp[PySem.W.alikeAll]
 | _::_,[]=>by simp[PySem.W.alikeAll]
 | a::r,b::q=>by simp[PySem.W.alikeAll,PySem.W.alike,JbI r q]
theorem JfF:∀ps:List (List Str),pys (ps.map rowD)=some (ps.map fun r=>.list (r.map PyData.str))
 | []=>rfl
 | r::ps=>by simp[pys,Jhu,JfF ps]
end VS
namespace VS
open PySem L2 SeqAt
theorem JbH:∀r:List Str,PyData.depthAll (r.map PyData.str)≤1
 | []=>by simp[PyData.depthAll]
 | a::r=>by
  have:=JbH r
  simp[PyData.depthAll,PyData.depth];omega
theorem depth_row (r:List Str):(PyData.list (r.map PyData.str)).depth≤2:=by
 have:=JbH r
 simp only[PyData.depth];omega
theorem sortOk_rows {rs:List (List Str)} (h:rs.length≤1000000):Ja3 (rs.map rowD)=true:=by
 have hp:∀r:List Str,pyO (rowD r)=.list (r.map PyData.str):=fun r=>by simp[pyO,Jhu]
 unfold Ja3
 simp only[Bool.and_eq_true]
 refine⟨⟨⟨⟨by rw[JfF];rfl,?_⟩,?_⟩,?_⟩,by simpa using Yh h⟩
 ·unfold JcS
  rw[List.all_eq_true];intro d hd
  rw[List.all_eq_true];intro e he
  obtain⟨r,_,rfl⟩:=List.mem_map.mp hd
  obtain⟨q,_,rfl⟩:=List.mem_map.mp he
  rw[hp,hp];simp[PySem.W.alike,JbI]
 ·unfold JaS
  rw[Bool.or_eq_true];right
  rw[List.all_eq_true];intro d hd
  obtain⟨r,_,rfl⟩:=List.mem_map.mp hd
  rw[hp]
 ·unfold Jbp
  rw[List.all_eq_true];intro d hd
  obtain⟨r,_,rfl⟩:=List.mem_map.mp hd
  rw[hp,decide_eq_true_eq];have:=depth_row r;omega
def leR (a b:List Str):Bool:=leD (rowD a) (rowD b)
def Jgq (rs:List (List Str)):List (List Str):=rs.mergeSort leR
theorem JbN (rs:List (List Str)):(Jgq rs).Perm rs:=List.mergeSort_perm _ _
theorem sort_rows (rs:List (List Str)):(rs.map rowD).mergeSort leD=(Jgq rs).map rowD:=by
 unfold Jgq
 rw[List.map_mergeSort (f:=rowD) (r:=leR) (s:=leD) fun a _ b _=>rfl]
theorem JeH (rs:List (List Str)):nols (rs.map rowD)=true:=JfX (fun p=>by simp[rowD]) _
end VS
namespace VS
open PySem L2 SeqAt
theorem leS_eq:leS=PySem.W.sortLe (PyProof.Rows.listOrd PyProof.Rows.itemOrd) false (fun s:Str=>PySem.W.keyToks (.str s)):=rfl
theorem leS_tot:PySem.W.TotalLe leS:=by rw[leS_eq];exact PySem.W.sortLe_total _ _ _
end VS
namespace VS
open PySem L2 SeqAt
theorem leS_cps (a b:Str):leS a b=decide (a.cps.toList≤b.cps.toList):=by
 have h:=PySem.W.dataLe_str (fun s:Str=>s)
 have e:leS=PySem.W.dataLe false (fun s:Str=>.str s):=rfl
 rw[e,h]
theorem leS_anti {a b:Str} (h1:leS a b=true) (h2:leS b a=true):a=b:=by
 rw[leS_cps,decide_eq_true_eq]at h1 h2
 have e:a.cps.toList=b.cps.toList:=List.le_antisymm h1 h2
 cases a;cases b
 simp at e ⊢
 exact e
theorem JfQ (ns:List Str):(YW ns).Pairwise fun a b=>leS a b=true:=List.pairwise_mergeSort leS_tot.trans (fun a b=>Bool.or_eq_true_iff.mpr (leS_tot.total a b)) ns
end VS
namespace VS
open PySem L2 SeqAt
theorem sortS_eq {as bs:List Str} (h:as.Perm bs):YW as=YW bs :=
 List.Perm.eq_of_pairwise (le:=fun a b=>leS a b=true) (fun a b _ _ h1 h2=>leS_anti h1 h2) (JfQ _) (JfQ _) ((Uh _).trans (h.trans (Uh _).symm))
structure Part (ns:List Str) (js:List Jn) (gs:List (List Str)):Prop where
 nd:gs.flatten.Nodup
 ne:∀g∈gs,g≠[]
 mem:∀m,m∈gs.flatten↔m∈ns
 eqv:∀g∈gs,∀a∈g,∀b,b∈g↔Conn js a b
def cl (gs:List (List Str)):List (List Str):=Jgq (gs.map YW)
theorem JhI (gs:List (List Str)):(cl gs).length=gs.length:=by unfold cl;rw[(JbN _).length_eq,List.length_map]
theorem Part.one {ns:List Str} {js:List Jn} {gs:List (List Str)} (w:Part ns js gs):gs.Nodup:=by
 have h:=List.pairwise_flatten.mp (List.pairwise_flatten.mpr (List.pairwise_flatten.mp w.nd))
 refine List.Pairwise.imp_of_mem (R:=fun l₁ l₂=>∀x∈l₁,∀y∈l₂,x≠y) (fun {a b} ha hb hab=>?_) h.2
 rintro rfl
 cases a with
 | nil=>exact w.ne _ ha rfl
 | cons x xs=>exact hab x (by simp) x (by simp) rfl
theorem Part.sorted {ns:List Str} {js:List Jn} {gs:List (List Str)} (w:Part ns js gs):(gs.map YW).Nodup:=by
 have h:=w.one
 refine List.pairwise_map.mpr (List.Pairwise.imp_of_mem (R:=fun a b=>a≠b) (fun {a b} ha hb hab e=>?_) h)
 have hp:a.Perm b:=((Uh a).symm.trans (by rw[e])).trans (Uh b)
 obtain⟨x,hx⟩:∃x,x∈a:=by
  cases a with
  | nil=>exact absurd rfl (w.ne _ ha)
  | cons x xs=>exact⟨x,by simp⟩
 have h2:=(List.pairwise_flatten.mp w.nd).2
 have key:∀l:List (List Str),l.Pairwise (fun l₁ l₂=>∀x∈l₁,∀y∈l₂,x≠y)→a∈l→b∈l→a=b:=by
  intro l hl ha hb
  induction l with
  | nil=>cases ha
  | cons q qs ih =>
   obtain⟨q1,q2⟩:=List.pairwise_cons.mp hl
   rcases List.mem_cons.mp ha with z | z<;>rcases List.mem_cons.mp hb with y | y
   ·rw[z,y]
   ·exact absurd rfl (q1 b y x (z ▸ hx) x (hp.mem_iff.mp hx))
   ·exact absurd rfl (q1 a z x (y ▸ hp.mem_iff.mp hx) x hx)
   ·exact ih q2 z y
 exact hab (key gs h2 ha hb)
end VS
namespace VS
open PySem L2 SeqAt
theorem Part.same {ns:List Str} {js:List Jn} {gs:List (List Str)} (w:Part ns js gs) {g g':List Str} {x:Str} (hg:g∈gs) (hg':g'∈gs) (hx:x∈g) (hx':x∈g'):g=g':=by
 have h2:=(List.pairwise_flatten.mp w.nd).2
 clear w
 induction gs with
 | nil=>cases hg
 | cons q qs ih =>
  obtain⟨q1,q2⟩:=List.pairwise_cons.mp h2
  rcases List.mem_cons.mp hg with z | z<;>rcases List.mem_cons.mp hg' with y | y
  ·rw[z,y]
  ·subst z;exact absurd rfl (q1 g' y x hx x hx')
  ·subst y;exact absurd rfl (q1 g z x hx' x hx)
  ·exact ih z y q2
theorem Part.find {ns:List Str} {js:List Jn} {gs:List (List Str)} (w:Part ns js gs) {a:Str} (ha:a∈ns):∃g,g∈gs∧a∈g∧(gs.filter fun g=>decide (a∈g))=[g]:=by
 obtain⟨g,hg,hag⟩:=List.mem_flatten.mp ((w.mem a).mpr ha)
 refine⟨g,hg,hag,List.perm_singleton.mp ((List.perm_ext_iff_of_nodup (w.one.filter _) (by simp)).mpr fun q=>?_)⟩
 simp only[List.mem_filter,decide_eq_true_eq,List.mem_singleton]
 exact⟨fun h=>w.same h.1 hg h.2 hag,fun h=>by subst h;exact⟨hg,hag⟩⟩
theorem Part.keep {ns:List Str} {js:List Jn} {gs:List (List Str)} (w:Part ns js gs) {g:List Str} {a b:Str} {s:Int} (hg:g∈gs) (ha:a∈g) (hb:b∈g):Part ns (js++[(a,b,s)]) gs where
 nd:=w.nd
 ne:=w.ne
 mem:=w.mem
 eqv:=fun q hq x hx y=>by
  rw[w.eqv q hq x hx,Jep]
  have hab:Conn js a b:=(w.eqv g hg a ha b).mp hb
  exact⟨.inl,fun h=>by
   rcases h with h | ⟨h,h'⟩ | ⟨h,h'⟩
   ·exact h
   ·exact(h.trans hab).trans h'
   ·exact(h.trans hab.symm).trans h'⟩
def JdG (gs:List (List Str)) (g1 g2:List Str):List (List Str):=(gs.filter fun g=>decide (g≠g1) && decide (g≠g2))++[g1++g2]
theorem Part.join {ns:List Str} {js:List Jn} {gs:List (List Str)} (w:Part ns js gs) {g1 g2:List Str} {a b:Str} {s:Int} (h1:g1∈gs) (h2:g2∈gs) (ha:a∈g1) (hb:b∈g2) (hne:g1≠g2):Part ns (js++[(a,b,s)]) (JdG gs g1 g2):=by
 have hp:gs.Perm ((gs.filter fun g=>decide (g≠g1) && decide (g≠g2))++[g1,g2]):=by
  refine (List.perm_ext_iff_of_nodup w.one ?_).mpr fun x=>?_
  ·refine List.nodup_append.mpr ⟨w.one.filter _,by simp[hne],fun x hx y hy e=>?_⟩
   subst e
   have:=(List.mem_filter.mp hx).2
   simp at this hy
   rcases hy with e | e
   ·exact this.1 e
   ·exact this.2 e
  ·simp only[List.mem_append,List.mem_filter,List.mem_cons,List.not_mem_nil,or_false,Bool.and_eq_true,decide_eq_true_eq]
   constructor
   ·intro hx
    by_cases e1:x=g1
    ·exact .inr (.inl e1)
    ·by_cases e2:x=g2
     ·exact .inr (.inr e2)
     ·exact .inl ⟨hx,e1,e2⟩
   ·rintro (h | h | h)
    ·exact h.1
    ·exact h ▸ h1
    ·exact h ▸ h2
 have hf:(JdG gs g1 g2).flatten=((gs.filter fun g=>decide (g≠g1) && decide (g≠g2))++[g1,g2]).flatten:=by
  unfold JdG;simp
 have hpf:(JdG gs g1 g2).flatten.Perm gs.flatten:=by rw[hf];exact hp.symm.flatten
 have nin:∀{q:List Str} {x c:Str} {g:List Str},q∈gs→g∈gs→x∈q→c∈g→q≠g→¬ Conn js x c:=fun hq hg hx hc hn h =>
  hn (w.same hq hg ((w.eqv _ hq _ hx _).mpr h) hc)
 constructor
 ·exact hpf.nodup_iff.mpr w.nd
 ·intro g hg
  rcases List.mem_append.mp hg with h | h
  ·exact w.ne g (List.mem_filter.mp h).1
  ·simp at h;subst h
   have:=w.ne g1 h1
   simp[this]
 ·exact fun m=>(hpf.mem_iff).trans (w.mem m)
 ·intro g hg x hx y
  rw[Jep]
  rcases List.mem_append.mp hg with h | h
  ·obtain⟨hq,hq2⟩:=List.mem_filter.mp h
   simp only[Bool.and_eq_true,decide_eq_true_eq]at hq2
   rw[w.eqv g hq x hx]
   exact⟨.inl,fun z=>by
    rcases z with z | ⟨z,_⟩ | ⟨z,_⟩
    ·exact z
    ·exact absurd z (nin hq h1 hx ha hq2.1)
    ·exact absurd z (nin hq h2 hx hb hq2.2)⟩
  ·simp only[List.mem_singleton]at h;subst h
   rw[List.mem_append]
   rcases List.mem_append.mp hx with hx | hx
   ·have xa:Conn js x a:=(w.eqv _ h1 x hx a).mp ha
    rw[w.eqv _ h1 x hx,w.eqv _ h2 b hb]
    exact⟨fun z=>z.elim .inl fun z=>.inr (.inl ⟨xa,z⟩),fun z=>by
     rcases z with z | ⟨_,z⟩ | ⟨z,_⟩
     ·exact .inl z
     ·exact .inr z
     ·exact absurd z (nin h1 h2 hx hb hne)⟩
   ·have xb:Conn js x b:=(w.eqv _ h2 x hx b).mp hb
    rw[w.eqv _ h1 a ha,w.eqv _ h2 x hx]
    exact⟨fun z=>z.elim (fun z=>.inr (.inr ⟨xb,z⟩)) .inl,fun z=>by
     rcases z with z | ⟨z,_⟩ | ⟨_,z⟩
     ·exact .inr z
     ·exact absurd z (nin h2 h1 hx ha (Ne.symm hne))
     ·exact .inl z⟩
theorem Part.start {ns:List Str} (nd:ns.Nodup):Part ns [] (ns.map fun n=>[n]) where
 nd:=by
  have:(ns.map fun n=>[n]).flatten=ns:=by induction ns with
   | nil=>rfl
   | cons a as ih=>simp[ih (List.nodup_cons.mp nd).2]
  rw[this];exact nd
 ne:=fun g hg=>by obtain⟨x,_,rfl⟩:=List.mem_map.mp hg;simp
 mem:=fun m=>by
  simp only[List.mem_flatten,List.mem_map]
  exact⟨fun ⟨l,⟨a,ha,e⟩,h⟩=>by subst e;simp at h;exact h ▸ ha,fun h=>⟨[m],⟨m,h,rfl⟩,by simp⟩⟩
 eqv:=fun g hg a ha b=>by
  obtain⟨x,_,rfl⟩:=List.mem_map.mp hg
  simp only[List.mem_singleton]at ha ⊢
  subst ha
  refine⟨fun e=>e ▸ Conn.refl _,fun ⟨o,r⟩=>?_⟩
  have:∀{x y:Str} {o:Int},Reach [] x y o→y=x:=fun r=>by
   induction r with
   | refl=>rfl
   | fwd _ m _=>cases m
   | bwd _ m _=>cases m
  exact this r
def fR (g:List Str):D:=.lst .f (g.map D.str)
theorem Uq:∀(n:Nat) (g:List Str),eqOks n (g.map D.str)=true
 | n,[]=>by cases n<;>rfl
 | n,a::as=>by
  have:eqOk n (.str a)=true:=by cases n<;>rfl
  rw[List.map_cons]
  unfold eqOks
  rw[this,Uq n as];rfl
theorem JbS:∀g h:List Str,pyEqs (g.map D.str) (h.map D.str)=decide (g=h)
 | [],[]=>rfl
 | [],_::_=>rfl
 | _::_,[]=>rfl
 | a::as,b::bs=>by
  rw[List.map_cons,List.map_cons]
  unfold pyEqs
  rw[JbS as bs]
  unfold pyEq
  by_cases h:a=b
  ·subst h;simp
  ·simp[h]
theorem Jil (a:Str) (g:List Str):pInW (.str a) (fR g)=some (.bl (decide (a∈g))):=by
 have h1:pInS (.str a) (fR g)=none:=rfl
 have h2:eqOks 40 (g.map D.str)=true:=Uq 40 g
 have h3:eqOk 40 (.str a)=true:=rfl
 have h4:((g.map D.str).any fun d=>pyEq d (.str a))=decide (a∈g):=by
  rw[Bool.eq_iff_iff,List.any_eq_true,decide_eq_true_eq]
  constructor
  ·rintro ⟨d,hd,e⟩
   obtain⟨x,hx,rfl⟩:=List.mem_map.mp hd
   unfold pyEq at e
   have:x=a:=by simpa using e
   exact this ▸ hx
  ·intro h
   exact⟨_,List.mem_map.mpr ⟨a,h,rfl⟩,by unfold pyEq;simp⟩
 show (match pInS (.str a) (fR g) with | some d=>some d | none=>pIn (.str a) (fR g))=_
 rw[h1]
 show (inB (.str a) (.lst .f (g.map D.str))).map D.bl=_
 have h5:inB (.str a) (.lst .f (g.map D.str))=some ((g.map D.str).any fun d=>pyEq d (.str a)):=by
  show (if (eqOk 40 (.str a) && eqOks 40 (g.map D.str))=true then _ else none)=_
  rw[h2,h3];rfl
 rw[h5,h4];rfl
theorem Jhl (g h:List Str):pNe (fR g) (fR h)=some (.bl (decide (g≠h))):=by
 have e1:eqOk 40 (fR g)=true:=Uq 39 g
 have e2:eqOk 40 (fR h)=true:=Uq 39 h
 have e3:pyEq (fR g) (fR h)=decide (g=h):=JbS g h
 unfold pNe;rw[e1,e2,e3]
 by_cases z:g=h<;>simp[z]
end VS
namespace VS
open PySem L2 SeqAt
@[simp] theorem JdF (g:List Str):(fR g).imm=true:=by
 have:imms (g.map D.str)=true:=Ql (fun _=>rfl) _
 unfold fR;simp[this]
@[simp] theorem JgO (gs:List (List Str)):imms (gs.map fR)=true:=Ql JdF _
@[simp] theorem fix_fR (g:List Str):(fR g).fix=fR g:=by
 have:fixs (g.map D.str)=g.map D.str:=Qz (fun _=>rfl) _
 unfold fR;simp[this]
@[simp] theorem fixs_fR (gs:List (List Str)):fixs (gs.map fR)=gs.map fR:=Qz fix_fR _
theorem fix_row (g:List Str):(rowD g).fix=fR g:=by
 have:fixs (g.map D.str)=g.map D.str:=Qz (fun _=>rfl) _
 unfold rowD fR
 rw[Jfm,this]
theorem JeK (gs:List (List Str)):fixs (gs.map rowD)=gs.map fR:=by
 induction gs with
 | nil=>rfl
 | cons g gs ih=>rw[List.map_cons,JcN,fix_row,ih];rfl
def LC (ns:List Str) (js:List Jn) (gs:List (List Str)) (o4 o5 o6 o7 o8 o9:Option D):Env:=[some (.lst .l (ns.map D.str)),some (.lst .l (js.map jt)),some (.lst .f (gs.map fR)),none,o4,o5,o6,o7,o8,o9]
section
variable {ns:List Str} {js done:List Jn} {gs:List (List Str)}
theorem JfN (w:Part ns done gs) {a:Str} (ha:a∈ns) (hl:gs.length≤1000) (v:Nat) (o4 o5 o6 o7 o8:Option D) (hv:(v=4∧o4=some (.str a))∨(v=5∧o5=some (.str a))) :
  ∃g,g∈gs∧a∈g∧cImm (cIdx (cLc (JB (cVar 2)) [9] (gSet 9) (cTt (c2 pInW (cVar v) (cVar 9))) (cGet 9)) (cK (.int 0))) (LC ns js gs o4 o5 o6 o7 o8 none)=.ok (fR g) (LC ns js gs o4 o5 o6 o7 o8 none):=by
 obtain⟨g,hg,hag,hf⟩:=w.find ha
 refine⟨g,hg,hag,?_⟩
 have hc:=JbX (f:=fR) (vs:=[9]) (g:=gSet 9) (ct:=cTt (c2 pInW (cVar v) (cVar 9))) (ce:=cGet 9) (env:=LC ns js gs o4 o5 o6 o7 o8 none) (y:=fR) (t:=fun g=>decide (a∈g)) (xs:=gs) (by
  intro q _
  refine⟨LC ns js gs o4 o5 o6 o7 o8 (some (fR q)),rfl,rfl,?_,fun _=>by simp[LC],rfl⟩
  rcases hv with ⟨rfl,rfl⟩ | ⟨rfl,rfl⟩<;>simp[LC,Jil])
 rw[hf]at hc
 have hz:gs.length≤sizeLine:=UY (by omega)
 have a0:atI [fR g] 0=some (fR g):=rfl
 unfold LC at hc ⊢
 simp only[List.map_cons,List.map_nil]at hc
 simp[hc,hz,a0]
theorem lcl_join (g1 g2:List Str) (hl:gs.length≤1000) (hz1:g1.length+g2.length≤100000) (o4 o5 o6:Option D) :
  (sAsg (cFix (c2 pAdd (cLc (JB (cVar 2)) [9] (gSet 9) (Qk (cTt (c2 pNe (cVar 9) (cVar 7))) (cTt (c2 pNe (cVar 9) (cVar 8)))) (cGet 9)) (cLst (Jb (cFix (c2 pAdd (cVar 7) (cVar 8))) cNil)))) (gSet 2)) (LC ns js gs o4 o5 o6 (some (fR g1)) (some (fR g2)) none)=.nx (LC ns js (JdG gs g1 g2) o4 o5 o6 (some (fR g1)) (some (fR g2)) none):=by
 have hc:=JbX (f:=fR) (vs:=[9]) (g:=gSet 9) (ct:=Qk (cTt (c2 pNe (cVar 9) (cVar 7))) (cTt (c2 pNe (cVar 9) (cVar 8)))) (ce:=cGet 9) (env:=LC ns js gs o4 o5 o6 (some (fR g1)) (some (fR g2)) none) (y:=fR) (t:=fun g=>decide (g≠g1) && decide (g≠g2)) (xs:=gs) (by
  intro q _
  refine⟨LC ns js gs o4 o5 o6 (some (fR g1)) (some (fR g2)) (some (fR q)),rfl,rfl,?_,fun _=>by simp[LC],rfl⟩
  by_cases h1:q=g1
  ·simp[LC,Jhl,h1]
  ·simp[LC,Jhl,h1])
 have hz:gs.length≤sizeLine:=UY (by omega)
 have hfl:(gs.filter fun g=>decide (g≠g1) && decide (g≠g2)).length≤gs.length:=List.length_filter_le _ _
 have hz2:(gs.filter fun g=>decide (g≠g1) && decide (g≠g2)).length≤sizeLine:=UY (by omega)
 have hz3:(gs.filter fun g=>decide (g≠g1) && decide (g≠g2)).length+1≤sizeLine:=Yh (by omega)
 have hz4:g1.length+g2.length≤sizeLine:=Yh (by omega)
 have ad:pAdd (fR g1) (fR g2)=some (.lst .m ((g1++g2).map D.str)):=by
  have i1:imms (g1.map D.str)=true:=Ql (fun _=>rfl) _
  have i2:imms (g2.map D.str)=true:=Ql (fun _=>rfl) _
  unfold fR
  simp[i1,i2,hz4]
 have fx:(D.lst .m ((g1++g2).map D.str)).fix=fR (g1++g2):=by
  have:fixs ((g1++g2).map D.str)=(g1++g2).map D.str:=Qz (fun _=>rfl) _
  unfold fR;simp only[Jfm,this]
 have jn:JdG gs g1 g2=(gs.filter fun g=>decide (g≠g1) && decide (g≠g2))++[g1++g2]:=rfl
 rw[jn]
 unfold LC at hc ⊢
 simp only[ne_eq,decide_not]at hc hz2 hz3 ⊢
 simp[hc,hz,hz2,hz3,ad,fx,-List.map_append,-List.filter_filter]
 have:=fixs_fR ((gs.filter fun g=>!decide (g=g1) && !decide (g=g2))++[g1++g2])
 simp only[List.map_append]at this ⊢
 exact this
theorem lcl_step (w:Part ns done gs) (hl:gs.length≤1000) (hsz:gs.flatten.length≤1000) {j:Jn} (ha:j.1∈ns) (hb:j.2.1∈ns) (o7 o8:Option D) :
  ∃gs' p7 p8,Jag (LC ns js gs (some (.str j.1)) (some (.str j.2.1)) (some (.int j.2.2)) o7 o8 none)=.nx (LC ns js gs' (some (.str j.1)) (some (.str j.2.1)) (some (.int j.2.2)) p7 p8 none)∧Part ns (done++[j]) gs':=by
 obtain⟨g1,h1,a1,e1⟩:=JfN (js:=js) w ha hl 4 (some (.str j.1)) (some (.str j.2.1)) (some (.int j.2.2)) o7 o8 (.inl ⟨rfl,rfl⟩)
 obtain⟨g2,h2,a2,e2⟩:=JfN (js:=js) w hb hl 5 (some (.str j.1)) (some (.str j.2.1)) (some (.int j.2.2)) (some (fR g1)) o8 (.inr ⟨rfl,rfl⟩)
 have lg:∀{g:List Str},g∈gs→g.length≤1000:=fun {g} hg=>Nat.le_trans (List.Sublist.length_le (List.sublist_flatten_of_mem hg)) hsz
 have ej:=lcl_join (ns:=ns) (js:=js) g1 g2 hl (by have:=lg h1;have:=lg h2;omega) (some (.str j.1)) (some (.str j.2.1)) (some (.int j.2.2))
 have s1:sAsg (cImm (cIdx (cLc (JB (cVar 2)) [9] (gSet 9) (cTt (c2 pInW (cVar 4) (cVar 9))) (cGet 9)) (cK (.int 0)))) (gSet 7) (LC ns js gs (some (.str j.1)) (some (.str j.2.1)) (some (.int j.2.2)) o7 o8 none)=.nx (LC ns js gs (some (.str j.1)) (some (.str j.2.1)) (some (.int j.2.2)) (some (fR g1)) o8 none):=by
  unfold sAsg;rw[e1];rfl
 have s2:sAsg (cImm (cIdx (cLc (JB (cVar 2)) [9] (gSet 9) (cTt (c2 pInW (cVar 5) (cVar 9))) (cGet 9)) (cK (.int 0)))) (gSet 8) (LC ns js gs (some (.str j.1)) (some (.str j.2.1)) (some (.int j.2.2)) (some (fR g1)) o8 none)=.nx (LC ns js gs (some (.str j.1)) (some (.str j.2.1)) (some (.int j.2.2)) (some (fR g1)) (some (fR g2)) none):=by
  unfold sAsg;rw[e2];rfl
 have hne:cTt (c2 pNe (cVar 7) (cVar 8)) (LC ns js gs (some (.str j.1)) (some (.str j.2.1)) (some (.int j.2.2)) (some (fR g1)) (some (fR g2)) none)=.ok (decide (g1≠g2)) (LC ns js gs (some (.str j.1)) (some (.str j.2.1)) (some (.int j.2.2)) (some (fR g1)) (some (fR g2)) none):=by
  simp[LC,Jhl]
 by_cases h:g1=g2
 ·refine⟨gs,some (fR g1),some (fR g2),?_,w.keep h1 a1 (h ▸ a2)⟩
  rw[decide_eq_false (by simp[h])]at hne
  exact Jk s1 (Jk s2 (Jcp hne rfl))
 ·refine⟨JdG gs g1 g2,some (fR g1),some (fR g2),?_,w.join h1 h2 a1 a2 h⟩
  rw[decide_eq_true h]at hne
  exact Jk s1 (Jk s2 (Jcb hne ej))
theorem Jd5 (w:Part ns done gs):gs.flatten.length≤ns.length:=Zr w.nd fun x hx=>(w.mem x).mp hx
theorem JbA (w:Part ns done gs):gs.length≤ns.length:=by
 have:∀gs:List (List Str),(∀g∈gs,g≠[])→gs.length≤gs.flatten.length:=fun gs=>by
  induction gs with
  | nil=>intro _;simp
  | cons g gs ih =>
   intro h
   have h1:=ih fun q hq=>h q (by simp[hq])
   have h2:=List.length_pos_iff.mpr (h g (by simp))
   rw[List.flatten_cons,List.length_append,List.length_cons];omega
 exact Nat.le_trans (this gs w.ne) (Jd5 w)
theorem Jh0 (nd:ns.Nodup) (hns:ns.length≤1000) (hjs:js.length≤1000) (hone:∀j∈js,j.1∈ns) (hoth:∀j∈js,j.2.1∈ns) :
  ∃gs,YV [.lst .l (ns.map D.str),.lst .l (js.map jt)]=.ok (.lst .m ((cl gs).map rowD)) []∧Part ns js gs:=by
 have loop:=Jcf (f:=jt) (g:=JI 3 (Je (gSet 4) (Je (gSet 5) (Je (gSet 6) JL)))) (body:=Jag)
  (P:=fun rest env=>∃done gs o4 o5 o6 o7 o8,env=LC ns js gs o4 o5 o6 o7 o8 none∧Part ns done gs∧done++rest=js)
  (G:=fun j rest env=>∃done gs o7 o8,env=LC ns js gs (some (.str j.1)) (some (.str j.2.1)) (some (.int j.2.2)) o7 o8 none∧Part ns done gs∧done++j::rest=js)
  (fun j rest env ⟨done,gs,o4,o5,o6,o7,o8,e,h⟩=>⟨_,by rw[e];rfl,done,gs,o7,o8,rfl,h⟩)
  (fun j rest env ⟨done,gs,o7,o8,e,w,h⟩=>by
   subst e
   have hj:j∈js:=by rw[←h];simp
   have q1:=Jd5 w
   have q2:=JbA w
   obtain⟨gs',p7,p8,e,w'⟩:=lcl_step (js:=js) w (by omega) (by omega) (hone j hj) (hoth j hj) o7 o8
   exact⟨_,e,done++[j],gs',_,_,_,p7,p8,rfl,w',by rw[←h];simp⟩)
  js (LC ns js (ns.map fun n=>[n]) none none none none none none) ⟨[],_,none,none,none,none,none,rfl,Part.start nd,rfl⟩
 obtain⟨env',f1,done,gs,o4,o5,o6,o7,o8,rfl,w,hd⟩:=loop
 rw[List.append_nil]at hd
 subst hd
 refine⟨gs,?_,w⟩
 have q2:=JbA w
 have h0:=Jbx (f:=D.str) (vs:=[3]) (g:=gSet 3) (ce:=cLst (Jb (cGet 3) cNil)) (env:=[some (.lst .l (ns.map D.str)),some (.lst .l (done.map jt)),none,none,none,none,none,none,none,none]) (y:=fun n=>D.lst .m [.str n]) (xs:=ns) (fun n _=>⟨_,rfl,rfl,by simp,rfl⟩)
 have hz:ns.length≤sizeLine:=UY (by omega)
 have hjz:done.length≤sizeLine:=UY (by omega)
 have hg:gs.length≤sizeLine:=UY (by omega)
 have fx:fixs (ns.map fun n=>D.lst .m [.str n])=(ns.map fun n=>[n]).map fR:=by
  rw[List.map_map]
  clear h0 f1 hone hoth w q2 hns nd hz
  induction ns with
  | nil=>rfl
  | cons a as ih=>simp[ih,fR]
 have srt:∀g∈gs,YE [fR g]=some (rowD (YW g)):=fun g hg=>by
  have:g.length≤1000:=by have:=Jd5 w;exact Nat.le_trans (List.Sublist.length_le (List.sublist_flatten_of_mem hg)) (by omega)
  have:=JaA (g:=.f) (ns:=g) this
  exact this
 have hc:=Jbx (f:=fR) (vs:=[9]) (g:=gSet 9) (ce:=cL YE (Jb (cVar 9) cNil)) (env:=LC ns done gs o4 o5 o6 o7 o8 none) (y:=fun g=>rowD (YW g)) (xs:=gs) (fun g hg=>⟨LC ns done gs o4 o5 o6 o7 o8 (some (fR g)),rfl,rfl,by
  have:=srt g hg
  simp[LC,this],rfl⟩)
 have hm:gs.map (fun g=>rowD (YW g))=(gs.map YW).map rowD:=by rw[List.map_map];rfl
 rw[hm]at hc
 have so:=sortOk_rows (rs:=gs.map YW) (by simp;omega)
 have sr:=sort_rows (gs.map YW)
 refine JN ⟨rfl,by decide⟩ rfl (?_:JaB _=.rt _ (LC ns done gs o4 o5 o6 o7 o8 none)) rfl
 unfold JaB
 refine Jk (env1:=[some (.lst .l (ns.map D.str)),some (.lst .l (done.map jt)),some (.lst .m (ns.map fun n=>D.lst .m [.str n])),none,none,none,none,none,none,none]) ?_ ?_
 ·simp[YF,h0,hz,-List.map_map]
 refine Jk (env1:=LC ns done gs o4 o5 o6 o7 o8 none) ?_ ?_
 ·unfold LC at f1 ⊢
  simp[fx,f1,hjz,-List.map_map]
 ·have s2:cLc (JB (cVar 2)) [9] (gSet 9) cYes (cL YE (Jb (cVar 9) cNil)) (LC ns done gs o4 o5 o6 o7 o8 none)=.ok (.lst .m ((gs.map YW).map rowD)) (LC ns done gs o4 o5 o6 o7 o8 none):=by
   unfold LC at hc ⊢
   have:((gs.map YW).map rowD).length≤sizeLine:=by simpa using hg
   simp[hc,hg,-List.map_map]
  unfold sRet Jd2 cl
  rw[s2]
  simp[R.bind,so,sr,-List.map_map]
end
end VS
namespace VS
open PySem L2 SeqAt
structure GrpOk (js:List Jn) (G:List (List Str)):Prop where
 nd:G.Nodup
 ne:∀g∈G,g≠[]
 same:∀g∈G,∀g'∈G,∀m,m∈g→m∈g'→g=g'
 eqv:∀g∈G,∀a∈g,∀b,b∈g↔Conn js a b
 gnd:∀g∈G,g.Nodup
theorem Part.grp {ns:List Str} {js:List Jn} {gs:List (List Str)} (w:Part ns js gs):GrpOk js (cl gs)∧∀m,m∈ns↔∃g∈cl gs,m∈g:=by
 have mem:∀g,g∈cl gs↔∃g0∈gs,g=YW g0:=fun g=>by
  unfold cl
  rw[(JbN _).mem_iff,List.mem_map]
  exact⟨fun ⟨a,h,e⟩=>⟨a,h,e.symm⟩,fun ⟨a,h,e⟩=>⟨a,h,e.symm⟩⟩
 have ms:∀(g0:List Str) m,m∈YW g0↔m∈g0:=fun g0 m=>(Uh g0).mem_iff
 refine⟨⟨(JbN _).nodup_iff.mpr w.sorted,fun g hg e=>?_,fun g hg g' hg' m hm hm'=>?_,fun g hg a ha b=>?_,fun g hg=>?_⟩,fun m=>?_⟩
 ·obtain⟨g0,h0,rfl⟩:=(mem g).mp hg
  have:=(Uh g0).length_eq
  rw[e]at this
  exact w.ne g0 h0 (List.eq_nil_of_length_eq_zero this.symm)
 ·obtain⟨g0,h0,rfl⟩:=(mem g).mp hg
  obtain⟨g1,h1,rfl⟩:=(mem g').mp hg'
  rw[w.same h0 h1 ((ms g0 m).mp hm) ((ms g1 m).mp hm')]
 ·obtain⟨g0,h0,rfl⟩:=(mem g).mp hg
  rw[ms,w.eqv g0 h0 a ((ms g0 a).mp ha)]
 ·obtain⟨g0,h0,rfl⟩:=(mem g).mp hg
  exact(Uh g0).nodup_iff.mpr ((List.pairwise_flatten.mp w.nd).1 g0 h0)
 ·rw[←w.mem m]
  constructor
  ·intro h
   obtain⟨g0,h0,hm⟩:=List.mem_flatten.mp h
   exact⟨YW g0,(mem _).mpr ⟨g0,h0,rfl⟩,(ms g0 m).mpr hm⟩
  ·rintro ⟨g,hg,hm⟩
   obtain⟨g0,h0,rfl⟩:=(mem g).mp hg
   exact List.mem_flatten.mpr ⟨g0,h0,(ms g0 m).mp hm⟩
def rtG (G:List (List Str)) (m:Str):Str:=match G.find? (fun g=>decide (m∈g)) with
 | some (h::_)=>h
 | _=>m
theorem GrpOk.find {js:List Jn} {G:List (List Str)} (w:GrpOk js G) {g:List Str} {m:Str} (hg:g∈G) (hm:m∈g):G.find? (fun g=>decide (m∈g))=some g:=by
 cases h:G.find? (fun g=>decide (m∈g)) with
 | none=>have:=List.find?_eq_none.mp h g hg;simp[hm]at this
 | some g' =>
  have h1:=List.mem_of_find?_eq_some h
  have h2:=List.find?_some h
  rw[w.same g' h1 g hg m (by simpa using h2) hm]
theorem GrpOk.rt {js:List Jn} {G:List (List Str)} (w:GrpOk js G) {f:Str} {r:List Str} (hg:(f::r)∈G) {m:Str} (hm:m∈f::r):rtG G m=f:=by
 unfold rtG;rw[w.find hg hm]
theorem GrpOk.rt_join {js:List Jn} {G:List (List Str)} (w:GrpOk js G) {j:Jn} (hj:j∈js) (h1:∃g∈G,j.1∈g):rtG G j.1=rtG G j.2.1:=by
 obtain⟨g,hg,hm⟩:=h1
 have hm2:j.2.1∈g:=(w.eqv g hg _ hm _).mpr ⟨j.2.2,.one hj⟩
 unfold rtG;rw[w.find hg hm,w.find hg hm2]
 cases g with
 | nil=>cases hm
 | cons a as=>rfl
end VS
namespace VS
open PySem L2 SeqAt
abbrev Q2:=List Str × (Str→Int)
def lst2 (q:Q2) (j:Jn):Q2 :=
 if j.1∈q.1∧j.2.1∉q.1 then (q.1++[j.2.1],upI q.2 j.2.1 (q.2 j.1+j.2.2))
 else if j.2.1∈q.1∧j.1∉q.1 then (q.1++[j.1],upI q.2 j.1 (q.2 j.2.1 - j.2.2)) else q
def Jac (js:List Jn) (td:List Str):Prop:=∀j∈js,(j.1∈td↔j.2.1∈td)
theorem Jf3 (q:Q2) (j:Jn):(∀m∈q.1,m∈(lst2 q j).1)∧q.1.length≤(lst2 q j).1.length∧(∀m∈q.1,(lst2 q j).2 m=q.2 m):=by
 unfold lst2
 split
 ·rename_i h
  exact⟨fun m hm=>List.mem_append_left _ hm,by simp,fun m hm=>if_neg (fun e:m=j.2.1=>h.2 (e ▸ hm))⟩
 ·split
  ·rename_i h
   exact⟨fun m hm=>List.mem_append_left _ hm,by simp,fun m hm=>if_neg (fun e:m=j.1=>h.2 (e ▸ hm))⟩
  ·exact⟨fun _ h=>h,Nat.le_refl _,fun _ _=>rfl⟩
theorem lst2_nd {q:Q2} (h:q.1.Nodup) (j:Jn):(lst2 q j).1.Nodup:=by
 unfold lst2
 have go:∀{x:Str},x∉q.1→(q.1++[x]).Nodup:=fun hx=>List.nodup_append.mpr ⟨h,by simp,fun a ha b hb=>by simp at hb;subst hb;intro z;subst z;exact hx ha⟩
 split
 ·rename_i z;exact go z.2
 ·split
  ·rename_i z;exact go z.2
  ·exact h
theorem lst2_both (q:Q2) (j:Jn):(j.1∈q.1∨j.2.1∈q.1)→j.1∈(lst2 q j).1∧j.2.1∈(lst2 q j).1:=by
 intro h
 unfold lst2
 by_cases h1:j.1∈q.1<;>by_cases h2:j.2.1∈q.1
 ·simp[h1,h2]
 ·simp[h1,h2]
 ·simp[h1,h2]
 ·rcases h with z | z
  ·exact absurd z h1
  ·exact absurd z h2
theorem Jb0:∀(js:List Jn) (q:Q2),(∀m∈q.1,m∈(js.foldl lst2 q).1)∧q.1.length≤(js.foldl lst2 q).1.length∧(∀m∈q.1,(js.foldl lst2 q).2 m=q.2 m)
 | [],q=>⟨fun _ h=>h,Nat.le_refl _,fun _ _=>rfl⟩
 | j::js,q=>by
  obtain⟨a1,a2,a3⟩:=Jf3 q j
  obtain⟨b1,b2,b3⟩:=Jb0 js (lst2 q j)
  exact⟨fun m hm=>b1 m (a1 m hm),Nat.le_trans a2 b2,fun m hm=>(b3 m (a1 m hm)).trans (a3 m hm)⟩
theorem Jcw:∀(js:List Jn) (q:Q2),∀j∈js,(j.1∈q.1∨j.2.1∈q.1)→j.1∈(js.foldl lst2 q).1∧j.2.1∈(js.foldl lst2 q).1
 | [],q=>fun j hj=>by cases hj
 | i::js,q=>fun j hj h=>by
  obtain⟨a1,_,_⟩:=Jf3 q i
  obtain⟨b1,_,_⟩:=Jb0 js (lst2 q i)
  rcases List.mem_cons.mp hj with z | z
  ·subst z
   obtain⟨c1,c2⟩:=lst2_both q j h
   exact⟨b1 _ c1,b1 _ c2⟩
  ·exact Jcw js (lst2 q i) j z (h.imp (a1 _) (a1 _))
theorem pass_grow {js:List Jn} {q:Q2} (hn:q.1.Nodup) (h:¬ Jac js q.1):q.1.length < (js.foldl lst2 q).1.length:=by
 obtain⟨j,hj,hne⟩:∃j∈js,¬ (j.1∈q.1↔j.2.1∈q.1):=by
  by_cases hh:∃j∈js,¬ (j.1∈q.1↔j.2.1∈q.1)
  ·exact hh
  ·exact absurd (fun j hj=>Decidable.byContradiction fun z=>hh ⟨j,hj,z⟩) h
 obtain⟨a1,a2,_⟩:=Jb0 js q
 have go:∀{x:Str},x∉q.1→x∈(js.foldl lst2 q).1→q.1.length < (js.foldl lst2 q).1.length:=fun {x} hx hx'=>by
  have:=Zr (xs:=q.1++[x]) (ys:=(js.foldl lst2 q).1) (List.nodup_append.mpr ⟨hn,by simp,fun a ha b hb=>by simp at hb;subst hb;intro z;subst z;exact hx ha⟩) fun m hm=>(List.mem_append.mp hm).elim (a1 m) fun z=>by simp at z;rw[z];exact hx'
  simp at this;omega
 by_cases h1:j.1∈q.1<;>by_cases h2:j.2.1∈q.1
 ·exact absurd ⟨fun _=>h2,fun _=>h1⟩ hne
 ·exact go h2 (Jcw js q j hj (.inl h1)).2
 ·exact go h1 (Jcw js q j hj (.inr h2)).1
 ·exact absurd ⟨fun z=>absurd z h1,fun z=>absurd z h2⟩ hne
theorem Jbv:∀{js ks:List Jn} {q:Q2},(∀j∈js,j∈ks)→Jac ks q.1→js.foldl lst2 q=q
 | [],_,_,_,_=>rfl
 | j::js,ks,q,hs,h=>by
  have e:lst2 q j=q:=by
   have hc:=h j (hs j (by simp))
   unfold lst2
   rw[if_neg (fun z=>z.2 (hc.mp z.1)),if_neg (fun z=>z.2 (hc.mpr z.1))]
  rw[List.foldl_cons,e]
  exact Jbv (fun i hi=>hs i (by simp[hi])) h
theorem Je1:∀(js:List Jn) {q:Q2},q.1.Nodup→(js.foldl lst2 q).1.Nodup
 | [],_,h=>h
 | j::js,_,h=>Je1 js (lst2_nd h j)
def JaK (js:List Jn) (rt0:Str→Str) (q:Q2):Prop:=∀m∈q.1,Reach js (rt0 m) m (q.2 m)
theorem lst2_root {js:List Jn} {rt0:Str→Str} {q:Q2} (hr:∀j∈js,rt0 j.1=rt0 j.2.1) (h:JaK js rt0 q) {j:Jn} (hj:j∈js):JaK js rt0 (lst2 q j):=by
 have mem:(j.1,j.2.1,j.2.2)∈js:=hj
 unfold lst2
 split
 ·rename_i z
  intro m hm
  unfold upI
  by_cases e:m=j.2.1
  ·subst e;simp only[if_true];rw[←hr j hj];exact(h _ z.1).fwd mem
  ·simp only[if_neg e]
   rcases List.mem_append.mp hm with y | y
   ·exact h m y
   ·simp at y;exact absurd y e
 ·split
  ·rename_i z
   intro m hm
   unfold upI
   by_cases e:m=j.1
   ·subst e;simp only[if_true];rw[hr j hj];exact(h _ z.1).bwd mem
   ·simp only[if_neg e]
    rcases List.mem_append.mp hm with y | y
    ·exact h m y
    ·simp at y;exact absurd y e
  ·exact h
theorem pass_root {js ks:List Jn} {rt0:Str→Str} (hr:∀j∈ks,rt0 j.1=rt0 j.2.1):∀{q:Q2},(∀j∈js,j∈ks)→JaK ks rt0 q→JaK ks rt0 (js.foldl lst2 q):=by
 induction js with
 | nil=>exact fun _ h=>h
 | cons j js ih=>exact fun hs h=>ih (fun i hi=>hs i (by simp[hi])) (lst2_root hr h (hs j (by simp)))
section
variable {ns:List Str} {js:List Jn} {t:Int}
def LN (ns:List Str) (js:List Jn) (t:Int) (q:Q2) (o4 o5 o6 o7 o8:Option D):Env:=[some (.lst .l (ns.map D.str)),some (.lst .l (js.map jt)),some (dN .m q.1 q.2),o4,o5,o6,o7,o8]
theorem Jhk (td:List Str) (o:Str→Int) (a:Str):pInW (.str a) (dN .m td o)=some (.bl (decide (a∈td))):=by
 have lk:Qw (td.map Sum.inr) (td.map fun m=>D.int (o m)) (Sum.inr a)=if a∈td then some (.int (o a)) else none:=Jgt (g:=fun m=>D.int (o m))
 show (inB (.str a) (dN .m td o)).map D.bl=_
 by_cases h:a∈td<;>simp[inB,dN,D.key,lk,h]
theorem Jf9 (td:List Str) (o:Str→Int) (a:Str):Uu (.str a) (dN .m td o)=some (.bl (decide (a∉td))):=by
 have lk:Qw (td.map Sum.inr) (td.map fun m=>D.int (o m)) (Sum.inr a)=if a∈td then some (.int (o a)) else none:=Jgt (g:=fun m=>D.int (o m))
 by_cases h:a∈td<;>simp[Uu,inB,dN,D.key,lk,h]
theorem Jgs {td:List Str} {o:Str→Int} {a:Str} (ha:a∉td) (hl:td.length < sizeLine) (x:Int):stD (dN .m td o) (.str a) (.int x)=some (dN .m (td++[a]) (upI o a x)):=by
 unfold dN
 rw[st_new (g:=fun m=>D.int (o m)) ha hl]
 have:(fun m=>D.int (upI o a x m))=up1 (fun m=>D.int (o m)) a (.int x):=by
  funext m;unfold up1 upI;split<;>rfl
 rw[this]
theorem Jel {td:List Str} {o:Str→Int} {a:Str} (ha:a∈td):ixD (dN .m td o) (.str a)=some (.int (o a)):=by simp[dN,ixD,D.key,ha]
theorem ln_step (q:Q2) (hl:q.1.length≤100000) (j:Jn) (o4 o5:Option D) :
  Qp (LN ns js t q o4 o5 (some (.str j.1)) (some (.str j.2.1)) (some (.int j.2.2)))=.nx (LN ns js t (lst2 q j) o4 o5 (some (.str j.1)) (some (.str j.2.1)) (some (.int j.2.2))):=by
 obtain⟨td,o⟩:=q
 have hz:td.length < sizeLine:=QS (by show td.length≤_;have:td.length≤100000:=hl;omega)
 have i1:=Jhk td o j.1
 have i2:=Jhk td o j.2.1
 have n1:=Jf9 td o j.1
 have n2:=Jf9 td o j.2.1
 unfold Qp lst2
 by_cases h1:j.1∈td<;>by_cases h2:j.2.1∈td
 ·simp only[h1,h2,not_true_eq_false,and_false,if_false,true_and,decide_true,decide_false,not_false_eq_true]at *
  unfold LN;simp[i1,i2,n1,n2]
 ·have s:=Jgs h2 hz (o:=o) (o j.1+j.2.2)
  have x1:=Jel (o:=o) h1
  have i2':=Jhk (td++[j.2.1]) (upI o j.2.1 (o j.1+j.2.2)) j.2.1
  have n1':=Jf9 (td++[j.2.1]) (upI o j.2.1 (o j.1+j.2.2)) j.1
  simp only[h1,h2,List.mem_append,List.mem_singleton,or_true,true_or,not_true_eq_false,not_false_eq_true,and_true,if_true,decide_true,decide_false]at *
  unfold LN;simp[i1,n2,x1,s,i2',n1']
 ·have s:=Jgs h1 hz (o:=o) (o j.2.1 - j.2.2)
  have x2:=Jel (o:=o) h2
  simp only[h1,h2,false_and,true_and,if_false,if_true,not_true_eq_false,not_false_eq_true,decide_true,decide_false]at *
  unfold LN;simp[i1,i2,n1,x2,s]
 ·simp only[h1,h2,false_and,if_false,decide_true,decide_false,not_false_eq_true]at *
  unfold LN;simp[i1,i2]
theorem ln_pass (q:Q2) (hnd:q.1.Nodup) (hl:∀ks:List Jn,(∀j∈ks,j∈js)→(ks.foldl lst2 q).1.length≤100000) (hjs:js.length≤1000) (o4 o5 o6 o7 o8:Option D) :
  ∃p6 p7 p8,Qt (LN ns js t q o4 o5 o6 o7 o8)=.nx (LN ns js t (js.foldl lst2 q) o4 o5 p6 p7 p8):=by
 obtain⟨env',f1,done,p6,p7,p8,rfl,hd⟩:=Jcf (f:=jt) (g:=JI 3 (Je (gSet 5) (Je (gSet 6) (Je (gSet 7) JL)))) (body:=Qp)
  (P:=fun rest env=>∃done p6 p7 p8,env=LN ns js t (done.foldl lst2 q) o4 o5 p6 p7 p8∧done++rest=js)
  (G:=fun j rest env=>∃done,env=LN ns js t (done.foldl lst2 q) o4 o5 (some (.str j.1)) (some (.str j.2.1)) (some (.int j.2.2))∧done++j::rest=js)
  (fun j rest env ⟨done,p6,p7,p8,e,h⟩=>⟨_,by rw[e];rfl,done,rfl,h⟩)
  (fun j rest env ⟨done,e,h⟩=>by
   subst e
   have:=ln_step (ns:=ns) (js:=js) (t:=t) (done.foldl lst2 q) (hl done fun i hi=>by rw[←h];simp[hi]) j o4 o5
   exact⟨_,this,done++[j],_,_,_,by rw[List.foldl_append];rfl,by rw[←h];simp⟩)
  js (LN ns js t q o4 o5 o6 o7 o8) ⟨[],o6,o7,o8,rfl,rfl⟩
 rw[List.append_nil]at hd
 subst hd
 refine⟨p6,p7,p8,?_⟩
 have hz:done.length≤sizeLine:=UY hjs
 unfold Qt
 unfold LN at f1 ⊢
 simp[f1,hz]
end
end VS
namespace VS
open PySem L2 SeqAt
def passes (js:List Jn):Nat→Q2→Q2
 | 0,q=>q
 | n+1,q=>js.foldl lst2 (passes js n q)
theorem JaP {js:List Jn} {q:Q2} (h:q.1.Nodup):∀n,(passes js n q).1.Nodup
 | 0=>h
 | n+1=>Je1 js (JaP h n)
theorem Jef (js:List Jn) (q:Q2):∀n,(∀m∈q.1,m∈(passes js n q).1)∧(∀m∈q.1,(passes js n q).2 m=q.2 m)
 | 0=>⟨fun _ h=>h,fun _ _=>rfl⟩
 | n+1=>by
  obtain⟨a1,a2⟩:=Jef js q n
  obtain⟨b1,_,b3⟩:=Jb0 js (passes js n q)
  exact⟨fun m hm=>b1 m (a1 m hm),fun m hm=>(b3 m (a1 m hm)).trans (a2 m hm)⟩
theorem Jc5 {js:List Jn} {rt0:Str→Str} (hr:∀j∈js,rt0 j.1=rt0 j.2.1) {q:Q2} (h:JaK js rt0 q):∀n,JaK js rt0 (passes js n q)
 | 0=>h
 | n+1=>pass_root hr (fun _ h=>h) (Jc5 hr h n)
theorem Jej {js:List Jn} {q:Q2} (h:q.1.Nodup):∀n,Jac js (passes js n q).1∨q.1.length+n≤(passes js n q).1.length
 | 0=>.inr (by simp[passes])
 | n+1=>by
  rcases Jej h n with z | z
  ·left;show Jac js (js.foldl lst2 (passes js n q)).1;rw[Jbv (fun _ h=>h) z];exact z
  ·by_cases hc:Jac js (passes js n q).1
   ·left;show Jac js (js.foldl lst2 (passes js n q)).1;rw[Jbv (fun _ h=>h) hc];exact hc
   ·right
    have:=pass_grow (JaP h n) hc
    show _≤(js.foldl lst2 (passes js n q)).1.length
    omega
def Jgp (S:Str→Prop) (js:List Jn):Prop:=∀j∈js,(S j.1↔S j.2.1)
theorem lst2_mem (q:Q2) (j:Jn) (m:Str):m∈(lst2 q j).1→m∈q.1∨(m=j.2.1∧j.1∈q.1)∨(m=j.1∧j.2.1∈q.1):=by
 unfold lst2
 split
 ·rename_i z
  intro hm
  rcases List.mem_append.mp hm with y | y
  ·exact .inl y
  ·simp at y;exact .inr (.inl ⟨y,z.1⟩)
 ·split
  ·rename_i z
   intro hm
   rcases List.mem_append.mp hm with y | y
   ·exact .inl y
   ·simp at y;exact .inr (.inr ⟨y,z.1⟩)
  ·exact .inl
theorem JeM {S:Str→Prop} {ks:List Jn} (hk:Jgp S ks):∀{js:List Jn} {q:Q2},(∀j∈js,j∈ks)→(∀m∈q.1,S m)→∀m∈(js.foldl lst2 q).1,S m
 | [],_,_,h=>h
 | j::js,q,hs,h=>by
  have hj:=hk j (hs j (by simp))
  refine JeM hk (js:=js) (q:=lst2 q j) (fun i hi=>hs i (by simp[hi])) fun m hm=>?_
  rcases lst2_mem q j m hm with y | ⟨y,z⟩ | ⟨y,z⟩
  ·exact h m y
  ·rw[y];exact hj.mp (h _ z)
  ·rw[y];exact hj.mpr (h _ z)
theorem JeF {S:Str→Prop} {js:List Jn} (hk:Jgp S js) {q:Q2} (h:∀m∈q.1,S m):∀n,∀m∈(passes js n q).1,S m
 | 0=>h
 | n+1=>JeM hk (fun _ h=>h) (JeF hk h n)
def Bd (q:Q2):Prop:=∀m∈q.1,-(1000000000000 * (q.1.length:Int))≤q.2 m∧q.2 m≤1000000000000 * (q.1.length:Int)
theorem Bd.lst2 {q:Q2} (h:Bd q) {j:Jn} (hj:-1000000000000≤j.2.2∧j.2.2≤1000000000000):Bd (lst2 q j):=by
 obtain⟨td,o⟩:=q
 have up:∀{x:Str} {a:Str} {z:Int},a∈td→(z=o a+j.2.2∨z=o a - j.2.2)→Bd (td++[x],upI o x z):=fun {x a z} ha hz m hm=>by
  have h1:=h a ha
  simp only[List.length_append,List.length_singleton]at h1 ⊢
  show _≤upI o x z m∧upI o x z m≤_
  unfold upI
  by_cases e:m=x
  ·rw[if_pos e];push_cast;rcases hz with z | z<;>omega
  ·rw[if_neg e]
   rcases List.mem_append.mp hm with q | q
   ·have:=h m q;simp only at this;push_cast;omega
   ·exact absurd (List.mem_singleton.mp q) e
 unfold VS.lst2
 simp only
 by_cases c1:j.1∈td∧j.2.1∉td
 ·simp only[c1,and_self,if_true,not_true_eq_false,and_false,if_false,not_false_eq_true,List.mem_append,true_or]
  exact up c1.1 (.inl rfl)
 ·by_cases c2:j.2.1∈td∧j.1∉td
  ·have c1':¬ (j.1∈td∧j.2.1∉td):=c1
   simp only[if_neg c1',if_pos c2]
   exact up c2.1 (.inr rfl)
  ·simp only[if_neg c1,if_neg c2];exact h
theorem Bd.fold {js:List Jn} (hb:∀j∈js,-1000000000000≤j.2.2∧j.2.2≤1000000000000):∀{q:Q2},Bd q→Bd (js.foldl VS.lst2 q):=by
 induction js with
 | nil=>exact fun h=>h
 | cons j js ih=>exact fun h=>ih (fun i hi=>hb i (by simp[hi])) (h.lst2 (hb j (by simp)))
theorem Bd.passes {js:List Jn} (hb:∀j∈js,-1000000000000≤j.2.2∧j.2.2≤1000000000000) {q:Q2} (h:Bd q):∀n,Bd (passes js n q)
 | 0=>h
 | n+1=>Bd.fold hb (Bd.passes hb h n)
theorem Bd.add {td:List Str} {o:Str→Int} (h:Bd (td,o)) (f:Str):Bd (td++[f],upI o f 0):=fun m hm=>by
 simp only[List.length_append,List.length_singleton]
 show _≤upI o f 0 m∧upI o f 0 m≤_
 unfold upI
 by_cases e:m=f
 ·rw[if_pos e];push_cast;omega
 ·rw[if_neg e]
  rcases List.mem_append.mp hm with q | q
  ·have:=h m q;simp only at this;push_cast;omega
  ·exact absurd (List.mem_singleton.mp q) e
theorem closed_reach {js:List Jn} {td:List Str} (h:Jac js td) {a b:Str} {o:Int} (r:Reach js a b o) (ha:a∈td):b∈td:=by
 induction r with
 | refl=>exact ha
 | fwd _ m ih=>exact(h _ m).mp ih
 | bwd _ m ih=>exact(h _ m).mpr ih
theorem JfR {js:List Jn} {td g:List Str} {o:Str→Int} {f:Str} (nd:td.Nodup) (hc:Jac js td) (hf:f∈g) (hft:f∉td) (hg:∀m,m∈g↔Conn js f m) :
  Jac js (passes js g.length (td++[f],upI o f 0)).1∧(∀m,m∈(passes js g.length (td++[f],upI o f 0)).1↔m∈td∨m∈g)∧(∀n,∀m∈(passes js n (td++[f],upI o f 0)).1,m∈td∨m∈g):=by
 have nd0:(td++[f]).Nodup:=List.nodup_append.mpr ⟨nd,by simp,fun a ha b hb=>by simp at hb;subst hb;intro z;subst z;exact hft ha⟩
 have hk:Jgp (fun m=>m∈td∨m∈g) js:=fun j hj=>by
  have c1:=hc j hj
  have c2:Conn js j.1 j.2.1:=⟨j.2.2,.one hj⟩
  have c3:j.1∈g↔j.2.1∈g:=by rw[hg,hg];exact⟨fun z=>z.trans c2,fun z=>z.trans c2.symm⟩
  show (j.1∈td∨j.1∈g)↔(j.2.1∈td∨j.2.1∈g)
  rw[c1,c3]
 have sub:=fun n=>JeF hk (q:=(td++[f],upI o f 0)) (fun m hm=>(List.mem_append.mp hm).imp id fun z=>by simp at z;rw[z];exact hf) n
 have ndn:=fun n=>JaP (js:=js) (q:=(td++[f],upI o f 0)) nd0 n
 have cl:Jac js (passes js g.length (td++[f],upI o f 0)).1:=by
  rcases Jej (js:=js) (q:=(td++[f],upI o f 0)) nd0 g.length with z | z
  ·exact z
  ·exfalso
   have:=Zr (ndn g.length) (ys:=td++g) fun m hm=>List.mem_append.mpr (sub g.length m hm)
   simp at z this;omega
 obtain⟨s1,_⟩:=Jef js (td++[f],upI o f 0) g.length
 refine⟨cl,fun m=>⟨sub g.length m,fun hm=>?_⟩,sub⟩
 rcases hm with z | z
 ·exact s1 m (List.mem_append_left _ z)
 ·obtain⟨o',r⟩:=(hg m).mp z
  exact closed_reach cl r (s1 f (by simp))
section
variable {ns:List Str} {js:List Jn} {t:Int}
theorem ln_group {td g:List Str} {o:Str→Int} {f:Str} {r:List Str} (hgr:g=f::r) (nd:td.Nodup) (hc:Jac js td) (hft:f∉td) (hg:∀m,m∈g↔Conn js f m) (hl:td.length+g.length≤10000) (hjs:js.length≤1000) (o5 o6 o7 o8:Option D) :
  ∃p5 p6 p7 p8,ZC (LN ns js t (td,o) (some (fR g)) o5 o6 o7 o8)=.nx (LN ns js t (passes js g.length (td++[f],upI o f 0)) (some (fR g)) p5 p6 p7 p8):=by
 have hf:f∈g:=by rw[hgr];simp
 obtain⟨_,_,sub⟩:=JfR (o:=o) nd hc hf hft hg
 have nd0:(td++[f]).Nodup:=List.nodup_append.mpr ⟨nd,by simp,fun a ha b hb=>by simp at hb;subst hb;intro z;subst z;exact hft ha⟩
 have hk:Jgp (fun m=>m∈td∨m∈g) js:=fun j hj=>by
  have c1:=hc j hj
  have c2:Conn js j.1 j.2.1:=⟨j.2.2,.one hj⟩
  have c3:j.1∈g↔j.2.1∈g:=by rw[hg,hg];exact⟨fun z=>z.trans c2,fun z=>z.trans c2.symm⟩
  show (j.1∈td∨j.1∈g)↔(j.2.1∈td∨j.2.1∈g)
  rw[c1,c3]
 have ndn:=fun n=>JaP (js:=js) (q:=(td++[f],upI o f 0)) nd0 n
 obtain⟨env',f1,done,p5,p6,p7,p8,rfl,hd⟩:=Jcf (f:=D.str) (g:=gSet 4) (body:=Qt)
  (P:=fun rest env=>∃done p5 p6 p7 p8,env=LN ns js t (passes js done.length (td++[f],upI o f 0)) (some (fR g)) p5 p6 p7 p8∧done++rest=g)
  (G:=fun n rest env=>∃done p6 p7 p8,env=LN ns js t (passes js done.length (td++[f],upI o f 0)) (some (fR g)) (some (.str n)) p6 p7 p8∧done++n::rest=g)
  (fun n rest env ⟨done,p5,p6,p7,p8,e,h⟩=>⟨_,by rw[e];rfl,done,p6,p7,p8,rfl,h⟩)
  (fun n rest env ⟨done,p6,p7,p8,e,h⟩=>by
   subst e
   obtain⟨q6,q7,q8,e⟩:=ln_pass (ns:=ns) (js:=js) (t:=t) (passes js done.length (td++[f],upI o f 0)) (ndn _) (fun ks hks=>by
    have i:=JeM hk (js:=ks) hks (sub done.length)
    have ndk:=Je1 ks (ndn done.length)
    have:=Zr ndk (ys:=td++g) fun m hm=>List.mem_append.mpr (i m hm)
    simp at this;omega) hjs (some (fR g)) (some (.str n)) p6 p7 p8
   exact⟨_,e,done++[n],some (.str n),q6,q7,q8,by rw[List.length_append];rfl,by rw[←h];simp⟩)
  g (LN ns js t (td++[f],upI o f 0) (some (fR g)) o5 o6 o7 o8) ⟨[],o5,o6,o7,o8,rfl,rfl⟩
 rw[List.append_nil]at hd
 subst hd
 refine⟨p5,p6,p7,p8,?_⟩
 have tl:td.length < sizeLine:=QS (by omega)
 have s:=Jgs hft tl (o:=o) 0
 have a0:atI (done.map D.str) 0=some (.str f):=by rw[hgr,List.map_cons,show (0:Int)=((0:Nat):Int) from rfl,Ze (by simp)];rfl
 have hz:done.length≤sizeLine:=Yh (by omega)
 have im:imms (done.map D.str)=true:=Ql (fun _=>rfl) _
 unfold ZC
 refine Jk (env1:=LN ns js t (td++[f],upI o f 0) (some (fR done)) o5 o6 o7 o8) ?_ ?_
 ·unfold LN fR;simp[a0,s]
 ·unfold LN fR at f1 ⊢
  simp[im,f1,hz]
end
end VS
namespace VS
open PySem L2 SeqAt
section
variable {ns:List Str} {js:List Jn} {t:Int}
theorem ln_groups {G:List (List Str)} (w:GrpOk js G) (hin:∀m,m∈ns↔∃g∈G,m∈g) (hns:ns.length≤1000) (hjs:js.length≤1000) (hone:∀j∈js,j.1∈ns) (hbd:∀j∈js,-1000000000000≤j.2.2∧j.2.2≤1000000000000) (o4 o5 o6 o7 o8:Option D) :
  ∃q p4 p5 p6 p7 p8,UH (gSet 3) ZC (G.map fR) (LN ns js t ([],fun _=>0) o4 o5 o6 o7 o8)=.nx (LN ns js t q p4 p5 p6 p7 p8)∧q.1.Nodup∧(∀m,m∈q.1↔m∈ns)∧Bd q∧JaK js (rtG G) q:=by
 have hrt:∀j∈js,rtG G j.1=rtG G j.2.1:=fun j hj=>w.rt_join hj ((hin _).mp (hone j hj))
 obtain⟨env',f1,done,q,p4,p5,p6,p7,p8,rfl,nd,cl,hm,⟨bd,rt⟩,hd⟩:=Jcf (f:=fR) (g:=gSet 3) (body:=ZC)
  (P:=fun rest env=>∃(done:List (List Str)) (q:Q2) (p4 p5 p6 p7 p8:Option D),env=LN ns js t q p4 p5 p6 p7 p8∧q.1.Nodup∧Jac js q.1∧(∀m,m∈q.1↔∃g∈done,m∈g)∧(Bd q∧JaK js (rtG G) q)∧done++rest=G)
  (G:=fun g rest env=>∃(done:List (List Str)) (q:Q2) (p5 p6 p7 p8:Option D),env=LN ns js t q (some (fR g)) p5 p6 p7 p8∧q.1.Nodup∧Jac js q.1∧(∀m,m∈q.1↔∃g∈done,m∈g)∧(Bd q∧JaK js (rtG G) q)∧done++g::rest=G)
  (fun g rest env ⟨done,q,p4,p5,p6,p7,p8,e,h⟩=>⟨_,by rw[e];rfl,done,q,p5,p6,p7,p8,rfl,h⟩)
  (fun g rest env ⟨done,q,p5,p6,p7,p8,e,nd,cl,hm,⟨bd,rt⟩,hd⟩=>by
   subst e
   obtain⟨td,o⟩:=q
   have hg:g∈G:=by rw[←hd];simp
   have hdg:∀g'∈done,g'∈G:=fun g' h=>by rw[←hd];simp[h]
   have hnd:g∉done:=fun z=>by
    have:=w.nd
    rw[←hd]at this
    exact(List.nodup_append.mp this).2.2 g z g (by simp) rfl
   obtain⟨f,r,hgr⟩:∃f r,g=f::r:=by
    cases g with
    | nil=>exact absurd rfl (w.ne _ hg)
    | cons f r=>exact⟨f,r,rfl⟩
   have hf:f∈g:=by rw[hgr];simp
   have hft:f∉td:=fun z=>by
    obtain⟨g',h',hm'⟩:=(hm f).mp z
    exact hnd (w.same g' (hdg g' h') g hg f hm' hf ▸ h')
   have hgc:∀m,m∈g↔Conn js f m:=w.eqv g hg f hf
   have hl:td.length+g.length≤10000:=by
    have h1:=Zr nd (ys:=ns) fun m z=>(hin m).mpr (by obtain⟨g',h',hm'⟩:=(hm m).mp z;exact⟨g',hdg g' h',hm'⟩)
    have h2:td.length≤1000:=by have:td.length≤ns.length:=h1;omega
    have h3:g.length≤ns.length:=Zr (w.gnd g hg) fun m z=>(hin m).mpr ⟨g,hg,z⟩
    omega
   obtain⟨q5,q6,q7,q8,e⟩:=ln_group (ns:=ns) (js:=js) (t:=t) (o:=o) hgr nd cl hft hgc hl hjs p5 p6 p7 p8
   obtain⟨cl2,hm2,_⟩:=JfR (js:=js) (o:=o) nd cl hf hft hgc
   have rt0:JaK js (rtG G) (td++[f],upI o f 0):=fun m z=>by
    unfold upI
    by_cases e:m=f
    ·subst e
     simp only[if_true]
     rw[w.rt (hgr ▸ hg) (hgr ▸ hf)]
     exact .refl _
    ·simp only[if_neg e]
     rcases List.mem_append.mp z with y | y
     ·exact rt m y
     ·simp at y;exact absurd y e
   refine⟨_,e,done++[g],_,_,q5,q6,q7,q8,rfl,JaP (List.nodup_append.mpr ⟨nd,by simp,fun a ha b hb=>by simp at hb;subst hb;intro z;subst z;exact hft ha⟩) _,cl2,fun m=>?_,⟨(bd.add f).passes hbd _,Jc5 hrt rt0 _⟩,by rw[←hd];simp⟩
   rw[hm2 m]
   constructor
   ·rintro (z | z)
    ·obtain⟨g',h',hm'⟩:=(hm m).mp z
     exact⟨g',by simp[h'],hm'⟩
    ·exact⟨g,by simp,z⟩
   ·rintro ⟨g',h',hm'⟩
    rcases List.mem_append.mp h' with y | y
    ·exact .inl ((hm m).mpr ⟨g',y,hm'⟩)
    ·simp at y;subst y;exact .inr hm')
  G (LN ns js t ([],fun _=>0) o4 o5 o6 o7 o8) ⟨[],([],fun _=>0),o4,o5,o6,o7,o8,rfl,by simp,(fun j _=>by simp),(fun m=>by simp),⟨(fun m z=>by cases z),(fun m z=>by cases z)⟩,rfl⟩
 rw[List.append_nil]at hd
 subst hd
 exact⟨q,p4,p5,p6,p7,p8,f1,nd,fun m=>(hm m).trans (hin m).symm,bd,rt⟩
end
end VS
namespace VS
open PySem L2 SeqAt
theorem Jdq (n:Str):∀r:List Str,((r.map D.str).any fun d=>pyEq d (.str n))=decide (n∈r)
 | []=>by simp
 | x::r=>by
  have:=Jdq n r
  by_cases e:x=n
  ·subst e;simp[pyEq]
  ·have e':¬ n=x:=fun z=>e z.symm
   simp only[List.map_cons,List.any_cons,this]
   simp[pyEq,e,e']
theorem JgP (g:Fl) (n:Str) (l:List Str):pInW (.str n) (.lst g (l.map D.str))=some (.bl (decide (n∈l))):=by
 have h:pIn (.str n) (.lst g (l.map D.str))=some (.bl (decide (n∈l))):=by
  show (if eqOk 40 (.str n) && eqOks 40 (l.map D.str) then some ((l.map D.str).any fun d=>pyEq d (.str n)) else none).map D.bl=_
  rw[Uq 40,Jdq]
  rfl
 show orP2 pInS pIn (.str n) (.lst g (l.map D.str))=_
 have h0:pInS (.str n) (.lst g (l.map D.str))=none:=rfl
 unfold orP2
 rw[h0];exact h
theorem Jb6 (g:Fl) (n:Str) (l:List Str):Uu (.str n) (.lst g (l.map D.str))=some (.bl (!decide (n∈l))):=by
 show (if eqOk 40 (.str n) && eqOks 40 (l.map D.str) then some ((l.map D.str).any fun d=>pyEq d (.str n)) else none).map (fun b=>D.bl (!b))=_
 rw[Uq 40,Jdq]
 rfl
theorem JY {c1 c2:CS} {env env1:Env} {r:D} (h1:c1 env=.rt r env1):sSeq c1 c2 env=.rt r env1:=by rw[Jhx,h1];rfl
theorem if_t {ct:CT} {s1 s2:CS} {env env1:Env} {o:O} (h:ct env=.ok true env1) (h2:s1 env1=o):sIf ct s1 s2 env=o:=by
 unfold sIf;rw[h];exact h2
theorem if_f {ct:CT} {s1 s2:CS} {env env1:Env} {o:O} (h:ct env=.ok false env1) (h2:s2 env1=o):sIf ct s1 s2 env=o:=by
 unfold sIf;rw[h];exact h2
theorem Hold.lend {js:List Jn} {dj:D} (hd:Hold jt js dj):dj.lend=dj:=by
 have:=Jaq js
 cases hd
 ·show D.lst .l (lends (js.map jt))=_;rw[this]
 ·show D.tup (lends (js.map jt))=_;rw[this]
end VS
namespace VS
open PySem L2 SeqAt
def stp (js:List Jn) (p:Int × Int) (x:Str):Option Str :=
 if 0≤p.1∧p.1 < js.length then
  match js[p.1.toNat]? with
  | some j=>if p.2=1 then (if j.1=x then some j.2.1 else none) else if p.2=-1 then (if j.2.1=x then some j.1 else none) else none
  | none=>none
 else none
def wk (js:List Jn):Str→List (Int × Int)→Option (List Str)
 | _,[]=>some []
 | x,p::w=>match stp js p x with
  | some y=>(wk js y w).map (y::·)
  | none=>none
def okR (js:List Jn) (met:List Str) (cur:Str) (w:List (Int × Int)) (b:Str):Bool:=match wk js cur w with
 | some l=>decide ((met++l).Nodup∧(cur::l).getLast?=some b)
 | none=>false
def okW (js:List Jn) (a:Str) (w:List (Int × Int)) (b:Str):Bool:=okR js [a] a w b
inductive HSt (l:List Str):D→Prop
 | l:HSt l (.lst .l (l.map D.str))
 | f:HSt l (.lst .f (l.map D.str))
 | t:HSt l (.tup (l.map D.str))
end VS
namespace VS
open PySem L2 SeqAt
section
variable {js:List Jn} {a b:Str}
theorem all_bl (l:List Bool):pAll [.lst .m (l.map D.bl)]=some (.bl (l.all id)):=by rw[Jbc]
theorem HSt.imm {l:List Str} {S:D} (h:HSt l S):S.imm=true:=by
 have:imms (l.map D.str)=true:=Ql (f:=D.str) (fun _=>rfl) l
 cases h
 ·show ((Fl.l == .l || Fl.l == .f) && imms (l.map D.str))=true;rw[this];rfl
 ·show ((Fl.f == .l || Fl.f == .f) && imms (l.map D.str))=true;rw[this];rfl
 ·exact this
theorem HSt.lend {l:List Str} {S:D} (h:HSt l S):HSt l S.lend:=by
 have:=Zq l
 cases h
 ·show HSt l (D.lst .l (lends (l.map D.str)));rw[this];exact .l
 ·show HSt l (D.lst .l (lends (l.map D.str)));rw[this];exact .l
 ·show HSt l (D.tup (lends (l.map D.str)));rw[this];exact .t
theorem HSt.isi {l:List Str} {S:D} (h:HSt l S):pIsi [S,.tup [.ty "list", .ty "tuple"]]=some (.bl true):=by cases h<;>rfl
theorem HSt.seq {l:List Str} {S:D} (h:HSt l S):Zm S=some (l.map D.str):=by cases h<;>rfl
theorem Jf0 {l:List Str} (n:Str):(if eqOk 40 (.str n) && eqOks 40 (l.map D.str) then some ((l.map D.str).any fun d=>pyEq d (.str n)) else none)=some (decide (n∈l)):=by
 rw[Uq 40,Jdq];rfl
theorem HSt.nin {l:List Str} {S:D} (h:HSt l S) (n:Str):Uu (.str n) S=some (.bl (!decide (n∈l))):=by
 cases h
 ·exact Jb6 .l n l
 ·exact Jb6 .f n l
 ·show (if eqOk 40 (.str n) && eqOks 40 (l.map D.str) then some ((l.map D.str).any fun d=>pyEq d (.str n)) else none).map (fun b=>D.bl (!b))=_
  rw[Jf0];rfl
theorem HSt.inn {l:List Str} {S:D} (h:HSt l S) (n:Str):pInW (.str n) S=some (.bl (decide (n∈l))):=by
 cases h
 ·exact JgP .l n l
 ·exact JgP .f n l
 ·have h:pIn (.str n) (.tup (l.map D.str))=some (.bl (decide (n∈l))):=by
   show (if eqOk 40 (.str n) && eqOks 40 (l.map D.str) then some ((l.map D.str).any fun d=>pyEq d (.str n)) else none).map D.bl=_
   rw[Jf0];rfl
  show orP2 pInS pIn (.str n) (.tup (l.map D.str))=_
  have h0:pInS (.str n) (.tup (l.map D.str))=none:=rfl
  unfold orP2
  rw[h0];exact h
theorem HSt.len {l:List Str} {S:D} (h:HSt l S):pLen [S]=some (.int (l.length:Nat)):=by
 cases h<;>simp[pLen]
theorem HSt.any {l:List Str} {S:D} (h:HSt l S) (i:Nat) {env:Env} (e:env[i]?=some (some S)):JB (cVar i) env=.ok (l.map D.str) env:=by
 have hi:imms (l.map D.str)=true:=Ql (f:=D.str) (fun _=>rfl) l
 cases h<;>simp[e,hi]
theorem HSt.lset {l:List Str} {S:D} (h:HSt l S) (hl:l.length≤1000):∃k,JaN (l.map D.str)=some k∧k.length=l.length∧((ddup k).length=l.length↔l.Nodup):=by
 have keysD_s:∀ms:List Str,JaN (ms.map D.str)=some (ms.map Sum.inr):=fun ms=>by
  induction ms with
  | nil=>rfl
  | cons m ms ih=>simp[JaN,D.key,ih]
 refine⟨l.map Sum.inr,keysD_s l,by simp,?_⟩
 have:=Jde (l.map (Sum.inr:Str→Key))
 rw[List.length_map]at this
 rw[this]
 exact⟨fun n=>List.Pairwise.of_map _ (fun x y h e=>h (by rw[e])) n,fun n=>List.Pairwise.map _ (fun x y h e=>h (Jdn _ _ e)) n⟩
end
end VS
namespace VS
open PySem L2 SeqAt
section
variable {js:List Jn} {a b:Str}
theorem map_bl {α:Type} (l:List α) (f:α→Bool):(l.map fun x=>D.bl (f x))=(l.map f).map D.bl:=by rw[List.map_map];rfl
theorem Jg0 (i:Int):Ub [.int i]=.ok (.bl true) []:=by
 refine JN (env0:=[some (.int i)]) (env:=[some (.int i)]) ⟨rfl,by decide⟩ rfl ?_ (by rfl)
 unfold JbT
 simp
theorem p_row_of (ds:List D) (k:Int):Yt [.tup ds,.int k]=.ok (.bl (decide ((ds.length:Int)=k))) []:=by
 have e1:pIsi [.tup ds,.ty "tuple"]=some (.bl true):=rfl
 refine JN (env0:=[some (.tup ds),some (.int k)]) (env:=[some (.tup ds),some (.int k)]) ⟨rfl,by decide⟩ rfl ?_ (by rfl)
 unfold Jbw
 simp[e1]
 rw[Bool.eq_iff_iff];simp
def sdB (p:Int × Int):Bool:=decide (p.2=1) || decide (p.2=-1)
theorem Jik (i:Int):pInW (.int i) (.tup [.int 1,.int (-1)])=some (.bl (decide (i=1) || decide (i=-1))):=by
 by_cases h1:i=1
 ·subst h1;rfl
 ·by_cases h2:i=-1
  ·subst h2;rfl
  ·rw[decide_eq_false h1,decide_eq_false h2]
   have e1:pyEq (.int 1) (.int i)=false:=by show ((1:Int) == i)=false;simpa using fun z=>h1 z.symm
   have e2:pyEq (.int (-1)) (.int i)=false:=by show ((-1:Int) == i)=false;simpa using fun z=>h2 z.symm
   have h:pIn (.int i) (.tup [.int 1,.int (-1)])=some (.bl false):=by
    show (if eqOk 40 (.int i) && eqOks 40 [.int 1,.int (-1)] then some ([D.int 1,.int (-1)].any fun d=>pyEq d (.int i)) else none).map D.bl=_
    simp only[List.any_cons,List.any_nil,e1,e2]
    rfl
   show orP2 pInS pIn _ _=_
   have h0:pInS (.int i) (.tup [.int 1,.int (-1)])=none:=rfl
   unfold orP2
   rw[h0];exact h
theorem p_pair (p:Int × Int):ZJ [pt p]=.ok (.bl (sdB p)) []:=by
 have e0:=p_row_of [.int p.1,.int p.2] 2
 have e1:=Jg0 p.1
 have e2:=Jg0 p.2
 have e3:=Jik p.2
 refine JN (env0:=[some (.tup [.int p.1,.int p.2])]) (env:=[some (.tup [.int p.1,.int p.2])]) ⟨rfl,by decide⟩ rfl ?_ (by rfl)
 unfold JcR sdB
 simp[e0,e1,e2,e3]
theorem p_is_way {w:List (Int × Int)} (hl:w.length≤1000):US [.tup (w.map pt)]=.ok (.bl (w.all sdB)) []:=by
 have e1:pIsi [.tup (w.map pt),.ty "tuple"]=some (.bl true):=rfl
 have hc:=Jbx (f:=pt) (vs:=[1]) (g:=gSet 1) (ce:=Jo ZJ (aRo (cVar 1) aNil)) (env:=[some (.tup (w.map pt)),none]) (y:=fun p=>D.bl (sdB p)) (xs:=w)
  (fun p hp=>⟨[some (.tup (w.map pt)),some (pt p)],rfl,rfl,by
   have vp:=p_pair p
   have ln:=Jgr p
   generalize pt p=P at *
   simp[vp,ln],rfl⟩)
 have al:pAll [.lst .m (w.map fun p=>D.bl (sdB p))]=some (.bl (w.all sdB)):=by rw[map_bl,all_bl,List.all_map];rfl
 have him:=ZO w
 have hz:w.length≤sizeLine:=Yh (by omega)
 refine JN (env0:=[some (.tup (w.map pt)),none]) (env:=[some (.tup (w.map pt)),none]) ⟨rfl,by decide⟩ rfl ?_ (by rfl)
 unfold JdP
 generalize (w.map fun p=>D.bl (sdB p))=YY at *
 generalize hW:w.map pt=WW at *
 have hWl:WW.length=w.length:=by rw[←hW];simp
 simp[e1,hc,him,hWl,hz,al]
def optD:Option Str→D
 | some y=>.str y
 | none=>.non
theorem p_passed {dj:D} (hd:Hold jt js dj) (p:Int × Int) (hs:sdB p=true) (x:Str):JaQ [dj,.str x,pt p]=.ok (optD (stp js p x)) []:=by
 obtain⟨i,s⟩:=p
 have hs':s=1∨s=-1:=by unfold sdB at hs;simpa using hs
 have ej:=Jaq js
 have ep:pt (i,s)=.tup [.int i,.int s]:=rfl
 have n3:(JI 2 (Je (gSet 3) (Je (gSet 4) JL))) (.tup [.int i,.int s]) [some dj,some (.str x),some (.tup [.int i,.int s]),none,none,none,none]=some [some dj,some (.str x),some (.tup [.int i,.int s]),some (.int i),some (.int s),none,none]:=rfl
 have s1:(sAsg (cGet 2) (JI 2 (Je (gSet 3) (Je (gSet 4) JL)))) [some dj,some (.str x),some (.tup [.int i,.int s]),none,none,none,none]=.nx [some dj,some (.str x),some (.tup [.int i,.int s]),some (.int i),some (.int s),none,none]:=by simp
 by_cases hr:0≤i∧i < js.length
 ·obtain⟨h0,h1⟩:=hr
  have hin:i.toNat < js.length:=by omega
  have eg:js[i.toNat]?=some js[i.toNat]:=List.getElem?_eq_getElem hin
  generalize hj:js[i.toNat]=j at eg
  have at0:atI (js.map jt) i=some (.tup [.str j.1,.str j.2.1,.int j.2.2]):=by
   have e0:i=((i.toNat:Nat):Int):=by omega
   rw[e0,Ze (by simpa using hin)]
   simp[eg];rfl
  have s2:(sIf (Yq (cTt (Jbr pLeG pLtG (cK (.int 0)) (cVar 3) (cL pLen (Jb (cVar 0) cNil))))) (sRet (cK .non)) sNil) [some dj,some (.str x),some (.tup [.int i,.int s]),some (.int i),some (.int s),none,none]=.nx [some dj,some (.str x),some (.tup [.int i,.int s]),some (.int i),some (.int s),none,none]:=by
   cases hd<;>simp[h0,h1]
  have ends:∃u v,Jay [.tup [.str j.1,.str j.2.1,.int j.2.2],.int s]=.ok (.tup [.str u,.str v]) []∧stp js (i,s) x=(if u=x then some v else none):=by
   rcases hs' with h | h
   ·refine⟨j.1,j.2.1,?_,?_⟩
    ·refine JN (env0:=[some (.tup [.str j.1,.str j.2.1,.int j.2.2]),some (.int s)]) (env:=[some (.tup [.str j.1,.str j.2.1,.int j.2.2]),some (.int s)]) ⟨rfl,by decide⟩ rfl ?_ (by rfl)
     unfold Jcy
     simp[h]
    ·unfold stp;simp only;rw[if_pos ⟨h0,h1⟩,eg];simp only;rw[if_pos h]
   ·refine⟨j.2.1,j.1,?_,?_⟩
    ·refine JN (env0:=[some (.tup [.str j.1,.str j.2.1,.int j.2.2]),some (.int s)]) (env:=[some (.tup [.str j.1,.str j.2.1,.int j.2.2]),some (.int s)]) ⟨rfl,by decide⟩ rfl ?_ (by rfl)
     unfold Jcy
     simp[h]
    ·unfold stp;simp only;rw[if_pos ⟨h0,h1⟩,eg];simp only;rw[if_neg (by omega),if_pos h]
  obtain⟨u,v,e1,e2⟩:=ends
  rw[e2]
  refine JN (env0:=[some dj,some (.str x),some (.tup [.int i,.int s]),none,none,none,none]) (env:=[some dj,some (.str x),some (.tup [.int i,.int s]),some (.int i),some (.int s),some (.str u),some (.str v)]) ⟨rfl,by decide⟩ rfl ?_ (by rfl)
  unfold JdM
  refine Jk s1 (Jk s2 ?_)
  refine Jk (env1:=[some dj,some (.str x),some (.tup [.int i,.int s]),some (.int i),some (.int s),some (.str u),some (.str v)]) (by cases hd<;>simp[at0,e1]) ?_
  by_cases hux:u=x
  ·rw[if_pos hux];simp[hux,optD]
  ·rw[if_neg hux];simp[hux,optD]
 ·have hst:stp js (i,s) x=none:=by unfold stp;simp only;rw[if_neg hr]
  rw[hst]
  refine JN (env0:=[some dj,some (.str x),some (.tup [.int i,.int s]),none,none,none,none]) (env:=[some dj,some (.str x),some (.tup [.int i,.int s]),some (.int i),some (.int s),none,none]) ⟨rfl,by decide⟩ rfl ?_ (by rfl)
  unfold JdM
  refine Jk s1 (JY ?_)
  by_cases h0:0≤i
  ·have h1:¬ i < js.length:=fun z=>hr ⟨h0,z⟩
   cases hd<;>simp[h0,h1,optD]
  ·cases hd<;>simp[h0,optD]
def go (js:List Jn):Str→List (Int × Int)→List D
 | _,[]=>[]
 | x,p::w=>match stp js p x with
  | some y=>.str y::go js y w
  | none=>[.non]
theorem go_cons (x:Str) (p:Int × Int) (w:List (Int × Int)):go js x (p::w)=match stp js p x with
  | some y=>.str y::go js y w
  | none=>[.non]:=rfl
theorem Je8:∀{w:List (Int × Int)} {x:Str} {l:List Str},wk js x w=some l→go js x w=l.map D.str
 | [],x,l,h=>by unfold wk at h;cases h;rfl
 | p::w,x,l,h=>by
  unfold wk at h
  unfold go
  cases e:stp js p x with
  | none=>rw[e]at h;cases h
  | some y =>
   rw[e]at h
   simp only at h ⊢
   cases e2:wk js y w with
   | none=>rw[e2]at h;cases h
   | some l2 =>
    rw[e2]at h
    cases h
    rw[Je8 e2];rfl
theorem JeQ:∀{w:List (Int × Int)} {x:Str},wk js x w=none→∃l:List Str,go js x w=l.map D.str++[.non]
 | [],x,h=>by unfold wk at h;cases h
 | p::w,x,h=>by
  unfold wk at h
  unfold go
  cases e:stp js p x with
  | none=>exact⟨[],rfl⟩
  | some y =>
   rw[e]at h
   simp only at h ⊢
   cases e2:wk js y w with
   | none =>
    obtain⟨l,hl⟩:=JeQ e2
    exact⟨y::l,by rw[hl];rfl⟩
   | some l2=>rw[e2]at h;cases h
theorem Jc2 {dj:D} (hd:Hold jt js dj) {w:List (Int × Int)} (hs:w.all sdB=true) (hl:w.length≤1000):ZI [dj,.str a,.tup (w.map pt)]=.ok (.lst .m (.str a::go js a w)) []:=by
 have ldj:dj.lend=dj:=by
  have:=Jaq js
  cases hd
  ·show D.lst .l (lends (js.map jt))=_;rw[this]
  ·show D.tup (lends (js.map jt))=_;rw[this]
 obtain⟨env',f1,met,o4,rfl,hmet,_⟩:=QD (f:=pt) (g:=gSet 4) (body:=Jak)
  (fun rest env=>∃met o4,env=[some dj,some (.str a),some (.tup (w.map pt)),some (.lst .m met),o4]∧((∃x l,met=l++[.str x]∧.str a::go js a w=met++go js x rest)∨(∃l,met=l++[.non]∧.str a::go js a w=met))∧met.length+rest.length≤w.length+1∧∀p∈rest,p∈w)
  (fun p rest env ⟨met,o4,e,h,hml,sub⟩=>by
   have hp:sdB p=true:=List.all_eq_true.mp hs p (sub p (by simp))
   have hz:met.length < sizeLine:=QS (by simp only[List.length_cons]at hml;omega)
   have ln:=Jgr p
   rcases h with ⟨x,l,em,eg⟩ | ⟨l,em,eg⟩
   ·have q3:atI met (-1)=some (.str x):=by rw[em];exact ZB _ _
    have vp:=p_passed hd p hp x
    have ex:∃y,optD (stp js p x)=y∧y.imm=true∧y.lend=y∧y.nol=true:=⟨_,rfl,by cases stp js p x<;>rfl,by cases stp js p x<;>rfl,by cases stp js p x<;>rfl⟩
    obtain⟨y,ey,iy,_,ny⟩:=ex
    rw[ey]at vp
    refine⟨[some dj,some (.str a),some (.tup (w.map pt)),some (.lst .m met),some (pt p)],[some dj,some (.str a),some (.tup (w.map pt)),some (.lst .m (met++[y])),some (pt p)],by rw[e];rfl,?_,met++[y],some (pt p),rfl,?_,by simp at hml ⊢;omega,fun q hq=>sub q (by simp[hq])⟩
    ·unfold Jak
     generalize pt p=P at *
     simp[q3,vp,ln,lVar,hz,ldj,iy,ny]
    ·rw[go_cons]at eg
     cases hst:stp js p x with
     | none =>
      rw[hst]at eg ey
      subst ey
      exact .inr ⟨met,rfl,eg⟩
     | some z =>
      rw[hst]at eg ey
      subst ey
      exact .inl ⟨z,met,rfl,by simp only at eg;rw[eg];simp[optD]⟩
   ·have q3:atI met (-1)=some .non:=by rw[em];exact ZB _ _
    refine⟨[some dj,some (.str a),some (.tup (w.map pt)),some (.lst .m met),some (pt p)],[some dj,some (.str a),some (.tup (w.map pt)),some (.lst .m met),some (pt p)],by rw[e];rfl,?_,met,some (pt p),rfl,.inr ⟨l,em,eg⟩,by simp at hml ⊢;omega,fun q hq=>sub q (by simp[hq])⟩
    unfold Jak
    generalize pt p=P at *
    have:ZY .non .non=some (.bl false):=rfl
    simp[q3,this])
  w [some dj,some (.str a),some (.tup (w.map pt)),some (.lst .m [.str a]),none] ⟨[.str a],none,rfl,.inl ⟨a,[],rfl,rfl⟩,by simp;omega,fun p hp=>hp⟩
 have hme:.str a::go js a w=met:=by
  rcases hmet with ⟨x,l,em,eg⟩ | ⟨l,em,eg⟩
  ·rw[eg];unfold go;simp
  ·exact eg
 have him:=ZO w
 rw[hme]
 refine JN (env0:=[some dj,some (.str a),some (.tup (w.map pt)),none,none]) (env:=[some dj,some (.str a),some (.tup (w.map pt)),none,o4]) ⟨rfl,by decide⟩ rfl ?_ (by rfl)
 unfold Jc4
 have hnimm:imms (.str a::go js a w)=imms met:=by rw[hme]
 generalize hW:w.map pt=WW at *
 refine Jk (env1:=[some dj,some (.str a),some (.tup WW),some (.lst .m [.str a]),none]) (by simp) ?_
 refine Jk (env1:=[some dj,some (.str a),some (.tup WW),some (.lst .m met),o4]) (by simp[him,f1]) ?_
 simp
theorem Jfx (g:Fl) (l:List Str):Uu .non (.lst g (l.map D.str))=some (.bl true):=by
 show (if eqOk 40 .non && eqOks 40 (l.map D.str) then some ((l.map D.str).any fun d=>pyEq d .non) else none).map (fun b=>D.bl (!b))=_
 rw[Uq 40]
 have:((l.map D.str).any fun d=>pyEq d .non)=false:=by
  rw[List.any_eq_false]
  intro d hd
  obtain⟨x,_,rfl⟩:=List.mem_map.mp hd
  simp[pyEq]
 rw[this];rfl
theorem Jcv (n:Nat):∀xs ys:List D,eqOks n xs=true→eqOks n ys=true→eqOks n (xs++ys)=true
 | [],ys,_,h=>h
 | x::xs,ys,h,h2=>by
  rw[List.cons_append,eqOks]
  rw[eqOks,Bool.and_eq_true]at h
  rw[h.1,Jcv n xs ys h.2 h2];rfl
theorem in_non (g:Fl) (l:List Str):Uu .non (.lst g (l.map D.str++[.non]))=some (.bl false):=by
 show (if eqOk 40 .non && eqOks 40 (l.map D.str++[D.non]) then some ((l.map D.str++[D.non]).any fun d=>pyEq d .non) else none).map (fun b=>D.bl (!b))=_
 rw[Jcv 40 _ _ (Uq 40 l) rfl]
 have:((l.map D.str++[D.non]).any fun d=>pyEq d .non)=true:=by
  rw[List.any_append];simp[pyEq]
 rw[this];rfl
theorem JdZ {l:List Str} {S:D} (h:HSt l S) (hl:l.length≤1000):Ye [S]=.ok (.bl (decide l.Nodup)) []:=by
 obtain⟨k,hk1,hk2,hk3⟩:=h.lset hl
 have hk4:k.length≤4000:=by omega
 have sq:=h.seq
 have el:=h.len
 refine JN (env0:=[some S]) (env:=[some S]) ⟨rfl,by decide⟩ rfl ?_ (by rfl)
 unfold Ja0
 by_cases hn:l.Nodup
 ·have:=hk3.mpr hn
  rw[decide_eq_true hn]
  simp[sq,hk1,hk4,this,el]
 ·have h1:¬ (ddup k).length=l.length:=fun z=>hn (hk3.mp z)
  rw[decide_eq_false hn]
  have h2:¬ ((ddup k).length:Int)=(l.length:Int):=by omega
  simp[sq,hk1,hk4,h2,el]
theorem JgY:∀{w:List (Int × Int)} {x:Str} {l:List Str},wk js x w=some l→w.all sdB=true
 | [],_,_,_=>rfl
 | p::w,x,l,h=>by
  unfold wk at h
  cases e:stp js p x with
  | none=>rw[e]at h;cases h
  | some y =>
   rw[e]at h
   simp only at h
   cases e2:wk js y w with
   | none=>rw[e2]at h;cases h
   | some l2 =>
    rw[List.all_cons,JgY e2,Bool.and_true]
    unfold stp at e
    unfold sdB
    split at e
    ·split at e
     ·by_cases h1:p.2=1
      ·simp[h1]
      ·rw[if_neg h1]at e
       by_cases h2:p.2=-1
       ·simp[h2]
       ·rw[if_neg h2]at e;cases e
     ·cases e
    ·cases e
theorem JcL:∀{w:List (Int × Int)} {x:Str} {l:List Str},wk js x w=some l→l.length=w.length
 | [],_,_,h=>by unfold wk at h;cases h;rfl
 | p::w,x,l,h=>by
  unfold wk at h
  cases e:stp js p x with
  | none=>rw[e]at h;cases h
  | some y =>
   rw[e]at h
   simp only at h
   cases e2:wk js y w with
   | none=>rw[e2]at h;cases h
   | some l2=>rw[e2]at h;cases h;simp[JcL e2]
theorem Jdc {dj:D} (hd:Hold jt js dj) {w:List (Int × Int)} (hl:w.length≤900):YT [dj,.str a,.str b,.tup (w.map pt)]=.ok (.bl (okW js a w b)) []:=by
 have v1:=p_is_way (w:=w) (by omega)
 have lW:=Jad w
 have lj:=hd.lend
 cases hs:w.all sdB with
 | false =>
  have:okW js a w b=false:=by
   unfold okW okR
   cases e:wk js a w with
   | none=>rfl
   | some l=>rw[JgY e]at hs;cases hs
  rw[this]
  rw[hs]at v1
  refine JN (env0:=[some dj,some (.str a),some (.str b),some (.tup (w.map pt)),none]) (env:=[some dj,some (.str a),some (.str b),some (.tup (w.map pt)),none]) ⟨rfl,by decide⟩ rfl ?_ (by rfl)
  unfold JaE
  refine JY ?_
  generalize w.map pt=WW at *
  simp[v1,lW]
 | true =>
  rw[hs]at v1
  have v2:=Jc2 (a:=a) hd hs (by omega)
  have s1:(sIf (Yq (cTt (Jo US (aRo (cVar 3) aNil)))) (sRet (cK (.bl false))) sNil) [some dj,some (.str a),some (.str b),some (.tup (w.map pt)),none]=.nx [some dj,some (.str a),some (.str b),some (.tup (w.map pt)),none]:=by
   generalize w.map pt=WW at *
   simp[v1,lW]
  have fin:∀(v:Bool) (M:List D),.str a::go js a w=M→nols M=true→(sRet (cAnd (c2 Uu (cK .non) (cVar 4)) (cAnd (c2 pEq (cIdx (cVar 4) (c1 pNeg (cK (.int 1)))) (cVar 2)) (Jo Ye (aRo (cVar 4) aNil))))) [some dj,some (.str a),some (.str b),some (.tup (w.map pt)),some (.lst .m M)]=.rt (.bl v) [some dj,some (.str a),some (.str b),some (.tup (w.map pt)),some (.lst .m M)]→YT [dj,.str a,.str b,.tup (w.map pt)]=.ok (.bl v) []:=fun v M eM nM h=>by
   rw[eM]at v2
   refine JN (env0:=[some dj,some (.str a),some (.str b),some (.tup (w.map pt)),none]) (env:=[some dj,some (.str a),some (.str b),some (.tup (w.map pt)),some (.lst .m M)]) ⟨rfl,by decide⟩ rfl ?_ (by rfl)
   unfold JaE
   refine Jk s1 (Jk ?_ h)
   generalize w.map pt=WW at *
   simp[v2,lW,lj,nM]
  cases e:wk js a w with
  | none =>
   have ho:okW js a w b=false:=by unfold okW okR;rw[e]
   obtain⟨l,hg⟩:=JeQ e
   have eM:.str a::go js a w=(a::l).map D.str++[.non]:=by rw[hg];rfl
   have q4:=in_non .m (a::l)
   have nM:nols ((a::l).map D.str++[.non])=true:=by
    have:∀xs:List Str,nols (xs.map D.str++[.non])=true:=fun xs=>by
     induction xs with
     | nil=>rfl
     | cons x xs ih=>rw[List.map_cons,List.cons_append];show ((D.str x).nol && nols (xs.map D.str++[.non]))=true;rw[ih];rfl
    exact this _
   rw[ho]
   refine fin false _ eM nM ?_
   generalize (a::l).map D.str++[.non]=MM at *
   simp[q4]
  | some l =>
   have hlen:=JcL e
   have ho:okW js a w b=(decide ((a::l).getLast?=some b) && decide (a::l).Nodup):=by
    unfold okW okR;rw[e]
    simp only[List.cons_append,List.nil_append]
    rw[Bool.eq_iff_iff]
    simp only[decide_eq_true_eq,Bool.and_eq_true]
    exact⟨fun h=>⟨h.2,h.1⟩,fun h=>⟨h.2,h.1⟩⟩
   have eM:.str a::go js a w=(a::l).map D.str:=by rw[Je8 e];rfl
   have q4:=Jfx .m (a::l)
   have nM:nols ((a::l).map D.str)=true:=Qv _
   have lnm:lends ((a::l).map D.str)=(a::l).map D.str:=Zq _
   have hu:=JdZ (l:=a::l) (S:=.lst .l ((a::l).map D.str)) .l (by simp;omega)
   obtain⟨l0,c,el⟩:∃l0 c,a::l=l0++[c]:=by
    rcases List.eq_nil_or_concat (a::l) with h | ⟨l0,c,h⟩
    ·cases h
    ·exact⟨l0,c,by rw[h,List.concat_eq_append]⟩
   have q3:atI ((a::l).map D.str) (-1)=some (.str c):=by
    rw[el,List.map_append,List.map_cons,List.map_nil]
    exact ZB _ _
   have hlast:(a::l).getLast?=some c:=by rw[el];simp
   rw[ho,hlast]
   refine fin _ _ eM nM ?_
   generalize (a::l).map D.str=MM at *
   by_cases hcb:c=b
   ·subst hcb
    simp[q4,q3,lnm,hu]
   ·have hbe:(c == b)=false:=by simpa using hcb
    simp[q4,q3,hcb,hbe]
theorem cut_any (xs:List D) (k:Nat):cutD xs none (some (k:Int))=xs.take k:=by
 have e2:HT.sIx xs.length xs.length (some (k:Int))=min k xs.length:=by unfold HT.sIx;simp only;rw[if_neg (by omega)];omega
 unfold cutD
 simp only[HT.sIx_none,e2,List.drop_zero,Nat.sub_zero]
 by_cases h:xs.length≤k
 ·rw[List.take_of_length_le h,List.take_of_length_le (by omega)]
 ·rw[Nat.min_eq_left (by omega)]
end
end VS
namespace VS
open PySem L2 SeqAt
def isPr:D→Bool
 | .tup [.int _,.int s]=>decide (s=1) || decide (s=-1)
 | _=>false
def isWy:D→Bool
 | .tup ds=>ds.all isPr
 | _=>false
theorem isPr_pt {d:D} (h:isPr d=true):∃p:Int × Int,d=pt p∧sdB p=true:=by
 unfold isPr at h
 split at h
 ·rename_i a s
  exact⟨(a,s),rfl,h⟩
 ·cases h
theorem Jf4 {d:D} (h:isWy d=true):∃w:List (Int × Int),d=.tup (w.map pt)∧w.all sdB=true:=by
 cases d with
 | tup ds =>
  have h':ds.all isPr=true:=h
  clear h
  induction ds with
  | nil=>exact⟨[],rfl,rfl⟩
  | cons x ds ih =>
   rw[List.all_cons,Bool.and_eq_true]at h'
   obtain⟨p,rfl,hp⟩:=isPr_pt h'.1
   obtain⟨w,e,hw⟩:=ih h'.2
   cases e
   exact⟨p::w,rfl,by rw[List.all_cons,hp,hw];rfl⟩
 | _=>simp[isWy]at h
section
variable {n:Nat} {d:D} {js:List Jn} {a b:Str} {dj:D}
theorem Jg5 (h:isR 2 d=false):isPr d=false:=by
 cases d with
 | tup ds =>
  cases ds with
  | nil=>rfl
  | cons x ds =>
   cases ds with
   | nil=>cases x<;>rfl
   | cons y ds =>
    cases ds with
    | nil=>simp[isR]at h
    | cons z ds=>cases x<;>cases y<;>rfl
 | _=>rfl
theorem isR_2 (h:isR 2 d=true):∃x y,d=.tup [x,y]:=by
 cases d with
 | tup ds =>
  cases ds with
  | nil=>simp[isR]at h
  | cons x ds =>
   cases ds with
   | nil=>simp[isR]at h
   | cons y ds =>
    cases ds with
    | nil=>exact⟨x,y,rfl⟩
    | cons z ds=>simp[isR]at h
 | _=>simp[isR]at h
theorem JeZ {x y:D}:isPr (.tup [x,y])=(isW x && (isW y && (match y with | .int s=>decide (s=1) || decide (s=-1) | _=>false))):=by
 cases x<;>cases y<;>rfl
theorem v_is_pair (h:pln n d=true):ZJ [d]=.ok (.bl (isPr d)) []:=by
 have hl:=(Yw h).2
 have r:=JcX h 2
 have r':Yt [d,.int 2]=.ok (.bl (isR 2 d)) []:=r
 unfold ZJ JO JcR
 cases hr:isR 2 d with
 | false =>
  rw[hr]at r'
  rw[Jg5 hr]
  simp[YF,UZ,Yf,hl,r']
 | true =>
  rw[hr]at r'
  obtain⟨x,y,rfl⟩:=isR_2 hr
  have hxy:=(JaF h).2
  have px:=hxy x (by simp)
  have py:=hxy y (by simp)
  have wx:=JbU px
  have wy:=JbU py
  have lx:=(Yw px).2
  have ly:=(Yw py).2
  have a0:atI [x,y] 0=some x:=rfl
  have a1:atI [x,y] 1=some y:=rfl
  rw[JeZ]
  cases hx:isW x with
  | false =>
   rw[hx]at wx
   simp[YF,UZ,Yf,lx,ly,r',a0,wx]
  | true =>
   rw[hx]at wx
   cases hy:isW y with
   | false =>
    rw[hy]at wy
    simp[YF,UZ,Yf,lx,ly,r',a0,a1,wx,wy]
   | true =>
    rw[hy]at wy
    cases y with
    | int s =>
     have ip:=Jik s
     simp[YF,UZ,Yf,lx,r',a0,a1,wx,wy,ip]
    | _=>cases hy
theorem JfJ (h:pln n d=true):US [d]=.ok (.bl (isWy d)) []:=by
 have t:=pi_tup h
 unfold US JO JdP
 cases d with
 | tup ds =>
  obtain⟨hz,hx⟩:=JaF h
  have hz:ds.length≤sizeLine:=Yh hz
  have im:imms ds=true:=by have:=(Yw h).1;simpa using this
  have lc:=Jbq (vs:=[1]) (g:=gSet 1) (ce:=Jo ZJ (aRo (cVar 1) aNil)) (env:=[some (.tup ds),none]) (y:=fun x=>.bl (isPr x)) (ds:=ds) fun x hx'=>by
   have px:=hx x hx'
   have l:=(Yw px).2
   have v:=v_is_pair px
   exact⟨[some (.tup ds),some x],by simp,by simp,by simp[l,v],by simp⟩
  have e:(ds.map fun x=>D.bl (isPr x))=(ds.map isPr).map D.bl:=by rw[List.map_map];rfl
  rw[e]at lc
  have al:pAll [.lst .m ((ds.map isPr).map D.bl)]=some (.bl (ds.all isPr)):=by rw[Jbc,List.all_map];rfl
  simp[-List.map_map,YF,UZ,Yf,t,isT,im,hz,lc,al,isWy]
 | _=>simp[YF,UZ,Yf,t,isT,isWy]
def MW (dj:D) (a:Str) (W:D) (met:List Str) (o4 o5 o6 o7:Option D):Env:=[some dj,some (.str a),some W,some (.lst .m (met.map D.str)),o4,o5,o6,o7]
theorem v_lmet (hd:Hold jt js dj) {w:List (Int × Int)} (hl:w.length≤1000) (hs:w.all sdB=true) :
  Jan [dj,.str a,.tup (w.map pt)]=.ok (match wk js a w with
   | some l=>.lst .m ((a::l).map D.str)
   | none=>.non) []:=by
 have run:=JeY (f:=pt) (g:=JI 2 (Je (gSet 4) (Je (gSet 5) JL))) (body:=QL)
  (P:=fun rest env=>∃l cur o4 o5 o6 o7,env=MW dj a (.tup (w.map pt)) (a::l) o4 o5 o6 o7∧(∃done,done++rest=w)∧(∃l0,a::l=l0++[cur])∧wk js a w=(wk js cur rest).map (l++·)∧l.length+rest.length≤1000)
  (Q:=fun r env=>r=.non∧wk js a w=none∧∃met o4 o5 o6 o7,env=MW dj a (.tup (w.map pt)) met o4 o5 o6 o7)
  (fun p rest env ⟨l,cur,o4,o5,o6,o7,e,⟨done,h1⟩,⟨l0,h2⟩,h3,h4⟩=>by
   subst e
   obtain⟨i,s⟩:=p
   have hm:(i,s)∈w:=by rw[←h1];simp
   have hss:s=1∨s=-1:=by
    have:=List.all_eq_true.mp hs _ hm
    unfold sdB at this;simpa using this
   have ep:pt (i,s)=.tup [.int i,.int s]:=rfl
   have q3:atI ((a::l).map D.str) (-1)=some (.str cur):=by
    rw[h2,List.map_append,List.map_cons,List.map_nil]
    exact ZB _ _
   simp only[List.length_cons]at h4
   have hlz:(a::l).length < sizeLine:=QS (by simp;omega)
   refine⟨MW dj a (.tup (w.map pt)) (a::l) (some (.int i)) (some (.int s)) o6 o7,by unfold MW;rw[ep];simp,?_⟩
   have hjl:pLen [dj]=some (.int (js.length:Nat))∨True:=.inr trivial
   by_cases hr:0≤i∧i < js.length
   ·obtain⟨r0,r1⟩:=hr
    have hin:i.toNat < js.length:=by omega
    have eg:js[i.toNat]?=some js[i.toNat]:=List.getElem?_eq_getElem hin
    generalize hj:js[i.toNat]=j at eg
    have at0:atI (js.map jt) i=some (.tup [.str j.1,.str j.2.1,.int j.2.2]):=by
     have e0:i=((i.toNat:Nat):Int):=by omega
     rw[e0,Ze (by simpa using hin)]
     simp[eg];rfl
    have cut2:cutD [D.str j.1,.str j.2.1,.int j.2.2] none (some 2)=[.str j.1,.str j.2.1]:=rfl
    obtain⟨u,v,es,est⟩:∃u v,QR (.tup [.str j.1,.str j.2.1]) (.int s)=some (.tup [.str u,.str v])∧stp js (i,s) cur=(if u=cur then some v else none):=by
     rcases hss with h | h
     ·refine⟨j.1,j.2.1,by subst h;rfl,?_⟩
      unfold stp;simp only;rw[if_pos ⟨r0,r1⟩,eg];simp only;rw[if_pos h]
     ·refine⟨j.2.1,j.1,by subst h;rfl,?_⟩
      unfold stp;simp only;rw[if_pos ⟨r0,r1⟩,eg];simp only;rw[if_neg (by omega),if_pos h]
    have s1:(sIf (Yq (cTt (Jbr pLeG pLtG (cK (.int 0)) (cVar 4) (cL pLen (Jb (cVar 0) cNil))))) (sRet (cK .non)) sNil) (MW dj a (.tup (w.map pt)) (a::l) (some (.int i)) (some (.int s)) o6 o7)=.nx (MW dj a (.tup (w.map pt)) (a::l) (some (.int i)) (some (.int s)) o6 o7):=by
     unfold MW;cases hd<;>simp[r0,r1]
    have s2:(sAsg (c2 QR (cSl (cIdx (cVar 0) (cVar 4)) pNo (pAt (cK (.int 2)))) (cVar 5)) (JI 2 (Je (gSet 6) (Je (gSet 7) JL)))) (MW dj a (.tup (w.map pt)) (a::l) (some (.int i)) (some (.int s)) o6 o7)=.nx (MW dj a (.tup (w.map pt)) (a::l) (some (.int i)) (some (.int s)) (some (.str u)) (some (.str v))):=by
     unfold MW;cases hd<;>simp[at0,cut2,es]
    by_cases huc:u=cur
    ·rw[if_pos huc]at est
     refine .inl ⟨MW dj a (.tup (w.map pt)) (a::(l++[v])) (some (.int i)) (some (.int s)) (some (.str u)) (some (.str v)),?_,l++[v],v,_,_,_,_,rfl,⟨done++[(i,s)],by rw[←h1];simp⟩,⟨a::l,rfl⟩,?_,by simp;omega⟩
     ·unfold QL
      refine Jk s1 (Jk s2 ?_)
      have em:(a::(l++[v])).map D.str=(a::l).map D.str++[.str v]:=by simp
      unfold MW
      rw[em]
      generalize hL:(a::l).map D.str=LL at *
      have hLL:LL.length < sizeLine:=by rw[←hL,List.length_map];exact hlz
      simp[q3,huc,hLL]
     ·rw[h3,wk,est]
      cases e:wk js v rest with
      | none=>simp[e]
      | some l2=>simp[e]
    ·rw[if_neg huc]at est
     refine .inr ⟨.non,MW dj a (.tup (w.map pt)) (a::l) (some (.int i)) (some (.int s)) (some (.str u)) (some (.str v)),?_,rfl,by rw[h3,wk,est];rfl,_,_,_,_,_,rfl⟩
     unfold QL
     refine Jk s1 (Jk s2 (JY ?_))
     unfold MW
     generalize (a::l).map D.str=LL at *
     have hbe:(u == cur)=false:=by simpa using huc
     simp[q3,huc,hbe]
   ·have est:stp js (i,s) cur=none:=by unfold stp;simp only;rw[if_neg hr]
    refine .inr ⟨.non,MW dj a (.tup (w.map pt)) (a::l) (some (.int i)) (some (.int s)) o6 o7,?_,rfl,by rw[h3,wk,est];rfl,_,_,_,_,_,rfl⟩
    unfold QL
    refine JY ?_
    unfold MW
    by_cases h0:0≤i
    ·have h1:¬ i < js.length:=fun z=>hr ⟨h0,z⟩
     cases hd<;>simp[h0,h1]
    ·cases hd<;>simp[h0])
  w (MW dj a (.tup (w.map pt)) [a] none none none none) ⟨[],a,none,none,none,none,rfl,⟨[],rfl⟩,⟨[],rfl⟩,by simp,by simpa using hl⟩
 have im:=ZO w
 have hz:w.length≤sizeLine:=Yh (by omega)
 have src:JB (cVar 2) (MW dj a (.tup (w.map pt)) [a] none none none none)=.ok (w.map pt) (MW dj a (.tup (w.map pt)) [a] none none none none):=by
  unfold MW;generalize w.map pt=WW at *;simp[im]
 have hzz:(w.map pt).length≤sizeLine:=by rw[List.length_map];exact hz
 have s0:(sAsg (cLst (Jb (cGet 1) cNil)) (gSet 3)) [some dj,some (.str a),some (.tup (w.map pt)),none,none,none,none,none]=.nx (MW dj a (.tup (w.map pt)) [a] none none none none):=by
  unfold MW;generalize w.map pt=WW at *;simp
 rcases run with ⟨env',k1,l,cur,o4,o5,o6,o7,rfl,_,_,h3,_⟩ | ⟨r,env',k1,rfl,hn,met,o4,o5,o6,o7,rfl⟩
 ·have hw:wk js a w=some l:=by rw[h3,wk];simp
  rw[hw]
  refine JN (env:=(MW dj a (.tup (w.map pt)) (a::l) o4 o5 o6 o7).set 3 none) ⟨rfl,by decide⟩ rfl ?_ rfl
  unfold JbV
  refine Jk s0 (Jk (env1:=MW dj a (.tup (w.map pt)) (a::l) o4 o5 o6 o7) ?_ ?_)
  ·unfold sFor;rw[src];simp only[hzz,if_true,k1]
  ·unfold MW;generalize w.map pt=WW at *;simp
 ·rw[hn]
  refine JN (env:=MW dj a (.tup (w.map pt)) met o4 o5 o6 o7) ⟨rfl,by decide⟩ rfl ?_ rfl
  unfold JbV
  refine Jk s0 (JY ?_)
  unfold sFor;rw[src];simp only[hzz,if_true,k1]
end
end VS
namespace VS
open PySem L2 SeqAt
def pls:Nat→Nat→D→Bool
 | 0,_,_=>false
 | _+1,_,.non=>true
 | _+1,_,.bl _=>true
 | _+1,_,.int _=>true
 | _+1,_,.str s=>decide (s.length≤100)
 | n+1,m,.tup ds=>decide (ds.length≤m) && ds.all (pls n m)
 | n+1,m,.lst .l ds=>decide (ds.length≤m) && ds.all (pls n m)
 | _,_,_=>false
theorem JbC:∀{n m:Nat} {d:D},m≤900→pls n m d=true→pln n d=true
 | 0,_,_,_,h=>by simp[pls]at h
 | n+1,m,d,hm,h=>by
  cases d with
  | non=>rfl
  | bl _=>rfl
  | int _=>rfl
  | str _=>rfl
  | tup ds =>
   simp only[pls,pln,Bool.and_eq_true,decide_eq_true_eq,List.all_eq_true]at h ⊢
   exact⟨by omega,fun x hx=>JbC hm (h.2 x hx)⟩
  | lst g ds =>
   cases g<;>simp only[pls,pln,Bool.and_eq_true,decide_eq_true_eq,List.all_eq_true]at h ⊢<;>first | (cases h;done) | exact⟨by omega,fun x hx=>JbC hm (h.2 x hx)⟩
  | _=>simp[pls]at h
section
variable {n m:Nat} {d:D} {js:List Jn} {a b:Str} {dj:D}
theorem pls_seq (hm:m≤900) (h:pls n m d=true) (hL:isL d=true):∃ds,Zm d=some ds∧(d=.lst .l ds∨d=.tup ds)∧(∀x∈ds,pls (n - 1) m x=true)∧ds.length≤m∧imms ds=true∧(∀(env:Env) (i:Nat),env[i]?=some (some d)→JB (cVar i) env=.ok ds env)∧pLen [d]=some (.int (ds.length:Nat)):=by
 have im:=(Yw (JbC hm h)).1
 cases n with
 | zero=>simp[pls]at h
 | succ n =>
  cases d with
  | tup ds =>
   simp only[pls,Bool.and_eq_true,decide_eq_true_eq,List.all_eq_true]at h
   have im:imms ds=true:=im
   exact⟨ds,rfl,.inr rfl,h.2,h.1,im,fun env i e=>by simp[e,im],by simp[pLen]⟩
  | lst g ds =>
   cases g<;>simp only[pls,Bool.and_eq_true,decide_eq_true_eq,List.all_eq_true]at h<;>first
    | (cases h;done)
    | (have im:imms ds=true:=by simpa using im
       exact⟨ds,rfl,.inl rfl,h.2,h.1,im,fun env i e=>by simp[e,im],by simp[pLen]⟩)
  | _=>simp[isL]at hL
theorem seq_no (h:pln n d=true) (hL:isL d=false):Zm d=none:=by
 cases n with
 | zero=>simp[pln]at h
 | succ n=>cases d<;>first | rfl | (simp[isL]at hL)
end
end VS
namespace VS
open PySem L2 SeqAt
def pzb:Nat→Nat→Nat→D→Bool
 | 0,_,_,_=>false
 | _+1,_,_,.non=>true
 | _+1,_,_,.bl _=>true
 | _+1,_,b,.int i=>decide (i.natAbs≤10 ^ 31 * (b+1))
 | _+1,_,b,.str s=>decide (s.length≤50+b) && s.cps.toList.all fun c=>decide (c < 128)
 | n+1,m,b,.tup ds=>decide (ds.length≤m) && ds.all (pzb n m b)
 | n+1,m,b,.lst .f ds=>decide (ds.length≤m) && ds.all (pzb n m b)
 | _,_,_,_=>false
theorem JaJ:∀{n m b n' m' b':Nat} {d:D},n≤n'→m≤m'→b≤b'→pzb n m b d=true→pzb n' m' b' d=true
 | 0,_,_,_,_,_,_,_,_,_,h=>by simp[pzb]at h
 | n+1,m,b,n',m',b',d,hn,hm,hb,h=>by
  obtain⟨k,rfl⟩:∃k,n'=k+1:=⟨n' - 1,by omega⟩
  cases d with
  | non=>rfl
  | bl _=>rfl
  | int i =>
   simp only[pzb,decide_eq_true_eq]at h ⊢
   have:10 ^ 31 * (b+1)≤10 ^ 31 * (b'+1):=Nat.mul_le_mul_left _ (by omega)
   omega
  | str s=>simp only[pzb,Bool.and_eq_true,decide_eq_true_eq]at h ⊢;exact⟨by omega,h.2⟩
  | tup ds =>
   simp only[pzb,Bool.and_eq_true,decide_eq_true_eq,List.all_eq_true]at h ⊢
   exact⟨by omega,fun x hx=>JaJ (by omega) hm hb (h.2 x hx)⟩
  | lst g ds =>
   cases g<;>simp only[pzb,Bool.and_eq_true,decide_eq_true_eq,List.all_eq_true]at h ⊢<;>first | (cases h;done) | exact⟨by omega,fun x hx=>JaJ (by omega) hm hb (h.2 x hx)⟩
  | _=>simp[pzb]at h
theorem Jez:∀ds:List D,lends ds=ds.map D.lend
 | []=>rfl
 | d::ds=>by rw[lends,Jez ds];rfl
theorem Jem {ds:List D} (h:∀d∈ds,d.fix=d):fixs ds=ds:=by
 induction ds with
 | nil=>rfl
 | cons d ds ih=>rw[JcN,h d (by simp),ih fun x hx=>h x (by simp[hx])]
theorem Uz:∀{n m b:Nat} {d:D},pzb n m b d=true→d.imm=true∧d.nol=true∧d.fix=d
 | 0,_,_,_,h=>by simp[pzb]at h
 | n+1,m,b,d,h=>by
  have hs:∀ds:List D,(∀x∈ds,pzb n m b x=true)→imms ds=true∧nols ds=true∧fixs ds=ds:=fun ds h =>
   ⟨Zh fun x hx=>(Uz (h x hx)).1,ZU fun x hx=>(Uz (h x hx)).2.1,Jem fun x hx=>(Uz (h x hx)).2.2⟩
  cases d with
  | non=>exact⟨rfl,rfl,rfl⟩
  | bl _=>exact⟨rfl,rfl,rfl⟩
  | int i=>exact⟨rfl,rfl,rfl⟩
  | str s=>exact⟨rfl,rfl,rfl⟩
  | tup ds =>
   simp only[pzb,Bool.and_eq_true,decide_eq_true_eq,List.all_eq_true]at h
   obtain⟨a1,a2,a3⟩:=hs ds h.2
   exact⟨a1,a2,by show D.tup (fixs ds)=_;rw[a3]⟩
  | lst g ds =>
   cases g<;>simp only[pzb,Bool.and_eq_true,decide_eq_true_eq,List.all_eq_true]at h<;>first
    | (cases h;done)
    | (obtain⟨a1,a2,a3⟩:=hs ds h.2
       exact⟨by show ((Fl.f == .l || Fl.f == .f) && imms ds)=true;rw[a1];rfl,by show ((Fl.f == .m || Fl.f == .f) && nols ds)=true;rw[a2];rfl,by show D.lst .f (fixs ds)=_;rw[a3]⟩)
  | _=>simp[pzb]at h
theorem Jdj:∀{n m b:Nat} {d:D},b≤50→pzb n m b d=true→pls n m d.lend=true
 | 0,_,_,_,_,h=>by simp[pzb]at h
 | n+1,m,b,d,hb,h=>by
  have hs:∀ds:List D,ds.length≤m→(∀x∈ds,pzb n m b x=true)→(decide ((lends ds).length≤m) && (lends ds).all (pls n m))=true:=fun ds hl h=>by
   rw[Jez,Bool.and_eq_true,decide_eq_true_eq,List.all_eq_true,List.length_map]
   refine⟨hl,fun x hx=>?_⟩
   obtain⟨y,hy,rfl⟩:=List.mem_map.mp hx
   exact Jdj hb (h y hy)
  cases d with
  | non=>rfl
  | bl _=>rfl
  | int i=>rfl
  | str s =>
   simp only[pzb,Bool.and_eq_true,decide_eq_true_eq]at h
   show decide (s.length≤100)=true
   exact decide_eq_true (by omega)
  | tup ds =>
   simp only[pzb,Bool.and_eq_true,decide_eq_true_eq,List.all_eq_true]at h
   exact hs ds h.1 h.2
  | lst g ds =>
   cases g<;>simp only[pzb,Bool.and_eq_true,decide_eq_true_eq,List.all_eq_true]at h<;>first
    | (cases h;done)
    | exact hs ds h.1 h.2
  | _=>simp[pzb]at h
def wz (d:D):Nat:=match d.py with
 | some y=>y.weight
 | none=>0
def wzs (xs:List D):Nat:=(xs.map fun x=>wz x+1).sum
structure Yz (n:Nat) (y:PyData):Prop where
 l:y.leavesShort 80=true
 s:y.showable=true
 d:y.depth≤n
theorem JhL {i:Int} (h:i.natAbs≤10 ^ 35):Yz 0 (.int i)∧(PyData.int i).weight≤130:=by
 have h1:(10:Nat) ^ 35 < 2 ^ 128:=by decide
 have h2:(10:Nat) ^ 35 < 10 ^ 36:=by decide
 have hl:i.natAbs.log2 < 128:=by
  by_cases h0:i.natAbs=0
  ·rw[h0];decide
  ·exact(Nat.log2_lt h0).mpr (Nat.lt_of_le_of_lt h h1)
 refine⟨⟨?_,?_,by simp[PyData.depth]⟩,?_⟩
 ·have e:=int_text_length_le10 (a:=i) (k:=36) (by decide) (Nat.lt_of_le_of_lt h h2)
  have:(PyData.shown (.int i)).length=(toString i).length:=ofString_length _
  simp only[PyData.leavesShort,decide_eq_true_eq]
  omega
 ·simp only[PyData.showable,decide_eq_true_eq];omega
 ·simp only[PyData.weight];split<;>omega
theorem Jcx {n:Nat}:∀{xs:List D},(∀x∈xs,∃y,x.py=some y∧Yz n y)→∃ys,pys xs=some ys∧PyData.leavesShortAll 80 ys=true∧PyData.showableAll ys=true∧PyData.depthAll ys≤n∧PyData.weightAll ys=wzs xs
 | [],_=>⟨[],rfl,rfl,rfl,by simp[PyData.depthAll],rfl⟩
 | x::xs,h=>by
  obtain⟨y,e,z⟩:=h x (by simp)
  obtain⟨ys,e2,a1,a2,a3,a4⟩:=Jcx (xs:=xs) fun x hx=>h x (by simp[hx])
  refine⟨y::ys,by rw[pys,e,e2];rfl,by simp[PyData.leavesShortAll,z.l,a1],by simp[PyData.showableAll,z.s,a2],?_,?_⟩
  ·have:=z.d;simp only[PyData.depthAll];omega
  ·have:wz x=y.weight:=by unfold wz;rw[e]
   simp only[PyData.weightAll,wzs,List.map_cons,List.sum_cons,this]
   rw[a4];rfl
theorem JdA:∀{n m b:Nat} {d:D},b≤50→pzb n m b d=true→∃y,d.py=some y∧Yz n y
 | 0,_,_,_,_,h=>by simp[pzb]at h
 | n+1,m,b,d,hb,h=>by
  cases d with
  | non=>exact⟨_,rfl,⟨rfl,rfl,by simp[PyData.depth]⟩⟩
  | bl _=>exact⟨_,rfl,⟨rfl,rfl,by simp[PyData.depth]⟩⟩
  | int i =>
   simp only[pzb,decide_eq_true_eq]at h
   have:10 ^ 31 * (b+1)≤10 ^ 35:=by
    have:10 ^ 31 * (b+1)≤10 ^ 31 * 51:=Nat.mul_le_mul_left _ (by omega)
    have h2:10 ^ 31 * 51≤10 ^ 35:=by decide
    omega
   have z:=(JhL (i:=i) (by omega)).1
   exact⟨_,rfl,⟨z.l,z.s,by have:=z.d;omega⟩⟩
  | str s =>
   simp only[pzb,Bool.and_eq_true,decide_eq_true_eq,List.all_eq_true]at h
   refine⟨_,rfl,⟨?_,rfl,by simp[PyData.depth]⟩⟩
   simp only[PyData.leavesShort,List.all_eq_true,decide_eq_true_eq]
   intro c hc
   have:=h.2 c hc
   have e:(16:Nat) ^ 8=4294967296:=by decide
   omega
  | tup ds =>
   simp only[pzb,Bool.and_eq_true,decide_eq_true_eq,List.all_eq_true]at h
   obtain⟨ys,e,a1,a2,a3,_⟩:=Jcx (n:=n) (xs:=ds) fun x hx=>JdA hb (h.2 x hx)
   exact⟨.tuple ys,by unfold D.py;rw[e];rfl,⟨a1,a2,by simp only[PyData.depth];omega⟩⟩
  | lst g ds =>
   cases g<;>simp only[pzb,Bool.and_eq_true,decide_eq_true_eq,List.all_eq_true]at h<;>first
    | (cases h;done)
    | (obtain⟨ys,e,a1,a2,a3,_⟩:=Jcx (n:=n) (xs:=ds) fun x hx=>JdA hb (h.2 x hx)
       exact⟨.list ys,by unfold D.py;rw[e];rfl,⟨a1,a2,by simp only[PyData.depth];omega⟩⟩)
  | _=>simp[pzb]at h
theorem Ja6 {n m b:Nat} {xs:List D} (hb:b≤50) (h:∀x∈xs,pzb n m b x=true):wz (.tup xs)=wzs xs:=by
 obtain⟨ys,e,_,_,_,a4⟩:=Jcx (n:=n) (xs:=xs) fun x hx=>JdA hb (h x hx)
 unfold wz D.py
 rw[e];exact a4
theorem Jfb {n m b:Nat} {g:Fl} {xs:List D} (hb:b≤50) (h:∀x∈xs,pzb n m b x=true):wz (.lst g xs)=wzs xs:=by
 obtain⟨ys,e,_,_,_,a4⟩:=Jcx (n:=n) (xs:=xs) fun x hx=>JdA hb (h x hx)
 unfold wz D.py
 rw[e];exact a4
theorem Jfd {xs:List D} {x:D} (h:x∈xs):wz x+1≤wzs xs:=by
 induction xs with
 | nil=>cases h
 | cons a xs ih =>
  have e:wzs (a::xs)=(wz a+1)+wzs xs:=by simp[wzs]
  rw[e]
  rcases List.mem_cons.mp h with rfl | z
  ·omega
  ·have:=ih z;omega
theorem Je4 {xs:List D} {w:Nat} (h:∀x∈xs,wz x≤w):wzs xs≤xs.length * (w+1):=by
 induction xs with
 | nil=>simp[wzs]
 | cons a xs ih =>
  have e:wzs (a::xs)=(wz a+1)+wzs xs:=by simp[wzs]
  have h1:=h a (by simp)
  have h2:=ih fun x hx=>h x (by simp[hx])
  rw[e,List.length_cons,Nat.add_mul]
  omega
theorem JaW (a:D) (xs:List D):wzs (a::xs)=(wz a+1)+wzs xs:=by simp[wzs]
theorem Ja8 (xs ys:List D):wzs (xs++ys)=wzs xs+wzs ys:=by simp[wzs]
theorem JgX {xs ys:List D} (h:xs.Sublist ys):wzs xs≤wzs ys:=by
 induction h with
 | slnil=>exact Nat.le_refl _
 | cons a _ ih=>rw[JaW];omega
 | cons_cons a _ ih=>rw[JaW,JaW];omega
theorem wzs_rev (xs:List D):wzs xs.reverse=wzs xs:=by
 induction xs with
 | nil=>rfl
 | cons a xs ih=>rw[List.reverse_cons,Ja8,JaW,ih];simp[wzs];omega
theorem Jfg {xs:List D} {i:Nat} {v:D} (h:i < xs.length):wzs (xs.set i v)+wz xs[i]=wzs xs+wz v:=by
 induction xs generalizing i with
 | nil=>simp at h
 | cons a xs ih =>
  cases i with
  | zero=>simp only[List.set_cons_zero,JaW,List.getElem_cons_zero];omega
  | succ i =>
   have:=ih (i:=i) (by simpa using h)
   simp only[List.set_cons_succ,JaW,List.getElem_cons_succ]
   omega
end VS
namespace VS
open PySem L2 SeqAt
theorem Jea {xs:List D} {r:Int} (h0:0≤r) (h1:r < xs.length):∃x,x∈xs∧atI xs r=some x:=by
 obtain⟨i,rfl⟩:∃i:Nat,r=(i:Nat):=⟨r.toNat,by omega⟩
 have hi:i < xs.length:=by omega
 exact⟨xs[i],List.getElem_mem hi,by rw[Ze hi,List.getElem?_eq_getElem hi]⟩
def Jaa:List D:=[.non,.bl true,.bl false,.int 0,.int (-1),.int 7,.str "", .str "a", .str "nobody", .ftu [],.lst .f [],.tup [.int 0],.tup [.int 0,.int 1],.tup [.int 0,.int 2],.tup [.bl true,.int 1],.tup [.int 0,.bl true],.lst .f [.int 0,.int 1]]
def QZ:List D:=[.tup [.int 0,.int 1,.int 1],.tup [.str "a", .int 0],.lst .f [.str "a", .int 0],.ftu [.tup [.str "a", .int 0]],.lst .f [.lst .f []],.tup [.str "a", .non],.tup [.non,.int 1],.tup [.str "0", .int 1],.int (10 ^ 30)]
def JdD:List D:=(Jaa++QZ).map D.thaw
theorem odds_all:(JdD.all fun d=>pzb 3 10 0 d && decide (wz d≤110))=true:=by decide +kernel
theorem Jb3 {d:D} (h:d∈JdD):pzb 3 10 0 d=true∧wz d≤110:=by
 have:=List.all_eq_true.mp odds_all d h
 simpa using this
theorem Jfn {d:D} (h:d∈Jaa++QZ):d.thaw∈JdD:=List.mem_map.mpr ⟨d,h,rfl⟩
theorem odds_fl:((Jaa++QZ).all fun d=>d.imm && d.nol)=true:=by decide +kernel
theorem Jg1:∀d∈Jaa++QZ,d.fix=d∧(d.thaw=d∨∃xs,d=.ftu xs):=by
 intro d hd
 simp only[Jaa,QZ,List.cons_append,List.nil_append,List.mem_cons,List.mem_nil_iff,or_false]at hd
 rcases hd with rfl | rfl | rfl | rfl | rfl | rfl | rfl | rfl | rfl | rfl | rfl | rfl | rfl | rfl | rfl | rfl | rfl | rfl | rfl | rfl | rfl | rfl | rfl | rfl | rfl | rfl<;>exact⟨rfl,by first | exact .inl rfl | exact .inr ⟨_,rfl⟩⟩
theorem Jdm {d:D} (h:d∈Jaa++QZ):d.imm=true∧d.nol=true:=by
 have:=List.all_eq_true.mp odds_fl d h
 simpa using this
theorem Jis (t:Tp):∃d t',ZF [tp t]=.ok d [tp t']∧d∈Jaa++QZ:=by
 have hl:(Jaa++QZ).length=26:=rfl
 have e26:=YJ t (m:=26) (by decide) (by decide)
 obtain⟨d,hd,ed⟩:=Jea (xs:=Jaa++QZ) (Zy (t:=t) (m:=26) (by decide)) (by rw[hl];exact UA (by decide))
 have hs:=Jdm hd
 refine⟨d,drT t 26,?_,hd⟩
 refine JN (env:=[some (tp (drT t 26)),some (.lst .m (Jaa++QZ))]) ⟨rfl,by decide⟩ rfl ?_ rfl
 unfold Jeh
 refine Jk (env1:=[some (tp t),some (.lst .f Jaa)]) rfl ?_
 have l1:Jaa.length=17:=rfl
 have l2:QZ.length=9:=rfl
 have z:26≤sizeLine:=UY (by decide)
 have ad:pAdd (.lst .f Jaa) (.lst .f QZ)=some (.lst .m (Jaa++QZ)):=by
  have i1:imms Jaa=true:=rfl
  have i2:imms QZ=true:=rfl
  generalize hA:Jaa=A at *
  generalize hB:QZ=B at *
  simp[i1,i2,l1,l2,z]
 refine Jk (env1:=[some (tp t),some (.lst .m (Jaa++QZ))]) ?_ ?_
 ·have e2:∀env:Env,(cFix (cLst (Jb (cTup (Jb (cK (.int 0)) (Jb (cK (.int 1)) (Jb (cK (.int 1)) cNil)))) (Jb (cTup (Jb (cK (.str "a")) (Jb (cK (.int 0)) cNil))) (Jb (cLst (Jb (cK (.str "a")) (Jb (cK (.int 0)) cNil))) (Jb (Jdy (Jb (cTup (Jb (cK (.str "a")) (Jb (cK (.int 0)) cNil))) cNil)) (Jb (cLst (Jb (cLst cNil) cNil)) (Jb (cTup (Jb (cK (.str "a")) (Jb (cK .non) cNil))) (Jb (cTup (Jb (cK .non) (Jb (cK (.int 1)) cNil))) (Jb (cTup (Jb (cK (.str "0")) (Jb (cK (.int 1)) cNil))) (Jb (c2 pPow (cK (.int 10)) (cK (.int 30))) cNil)))))))))))  env=.ok (.lst .f QZ) env:=fun env=>rfl
  simp[-e_fix,e2,ad]
 ·have im:=hs.1
  generalize Jaa++QZ=L at *
  have hz:L.length≤sizeLine:=by rw[hl];exact z
  have e26':Jf [tp t,.int (L.length:Nat)]=.ok (.int (drV t 26)) [tp (drT t 26)]:=by rw[hl];exact e26
  simp[hz,e26',ed,im]
theorem cut_to7 (xs:List D) (k:Nat):cutD xs none (some (k:Int))=xs.take k:=cut_any xs k
theorem JeE (xs:List D) (k:Nat):cutD xs (some (k:Int)) none=xs.drop k:=by
 have e1:HT.sIx xs.length 0 (some (k:Int))=min k xs.length:=by unfold HT.sIx;simp only;rw[if_neg (by omega)];omega
 unfold cutD
 simp only[HT.sIx_none,e1]
 by_cases h:k≤xs.length
 ·rw[Nat.min_eq_left h,List.take_of_length_le (by rw[List.length_drop];omega)]
 ·rw[Nat.min_eq_right (by omega),List.drop_of_length_le (Nat.le_refl _),List.drop_of_length_le (by omega)];simp
theorem cut_mid7 (xs:List D) (k:Nat):cutD xs (some (k:Int)) (some ((k:Int)+1))=(xs.drop k).take 1:=by
 have ek:((k:Int)+1)=((k+1:Nat):Int):=by push_cast;rfl
 have e1:HT.sIx xs.length 0 (some (k:Int))=min k xs.length:=by unfold HT.sIx;simp only;rw[if_neg (by omega)];omega
 have e2:HT.sIx xs.length xs.length (some ((k+1:Nat):Int))=min (k+1) xs.length:=by unfold HT.sIx;simp only;rw[if_neg (by omega)];omega
 unfold cutD
 rw[ek,e1,e2]
 by_cases h:k < xs.length
 ·rw[Nat.min_eq_left (by omega),Nat.min_eq_left (by omega)]
  congr 1;omega
 ·rw[Nat.min_eq_right (by omega),Nat.min_eq_right (by omega),List.drop_of_length_le (Nat.le_refl _),List.drop_of_length_le (by omega)]
  simp
theorem Jdx {n j:Nat} (h:j < n):ixN n (j:Int)=some j:=by
 unfold ixN
 have h1:¬ ((j:Int) < 0):=by omega
 first
  | simp[h,h1]
  | (simp only[h1,if_false];simp[h])
  | (unfold seqIndex?;simp;omega)
def BR (T:Tp) (d:D) (o2 o3 o4 o5:Option D):Env:=[some (tp T),some d,o2,o3,o4,o5]
inductive Rw (xs:List D):D→Prop
 | l:Rw xs (.lst .f xs)
 | t:Rw xs (.tup xs)
theorem v_bent_row (t:Tp) {xs:List D} {d:D} {n m b:Nat} {e:D} (hd:Rw xs e) (hth:d.thaw=e) (d0:d.imm=true∧d.nol=true) (hx:∀x∈xs,pzb n m b x=true) (hl:xs.length≤1000) :
  ∃R ys t',Ua [tp t,d]=.ok R [tp t',d]∧(R=.lst .m ys∨R=.ftu ys)∧(∀y∈ys,y∈xs∨y∈JdD)∧ys.length≤xs.length+1∧wzs ys≤3 * wzs xs+111:=by
 have hm:(0:Int) < (xs.length:Int)+1:=by omega
 have d8:=YJ t (m:=8) (by decide) (by decide)
 have q0:=Zy (t:=t) (m:=8) (by decide)
 have q1:=UA (t:=t) (m:=8) (by decide)
 have da:=YJ (drT t 8) hm (by omega)
 have p0:=Zy (t:=drT t 8) hm
 have p1:=UA (t:=drT t 8) hm
 have db:=YJ (drT (drT t 8) ((xs.length:Int)+1)) hm (by omega)
 have r0:=Zy (t:=drT (drT t 8) ((xs.length:Int)+1)) hm
 have r1:=UA (t:=drT (drT t 8) ((xs.length:Int)+1)) hm
 generalize drV (drT (drT t 8) ((xs.length:Int)+1)) ((xs.length:Int)+1)=ot at *
 generalize drT (drT (drT t 8) ((xs.length:Int)+1)) ((xs.length:Int)+1)=T3 at *
 generalize drV (drT t 8) ((xs.length:Int)+1)=a1 at *
 generalize drT (drT t 8) ((xs.length:Int)+1)=T2 at *
 generalize drV t 8=way at *
 generalize drT t 8=T1 at *
 obtain⟨ai,rfl⟩:∃i:Nat,a1=(i:Nat):=⟨a1.toNat,by omega⟩
 obtain⟨oi,rfl⟩:∃i:Nat,ot=(i:Nat):=⟨ot.toNat,by omega⟩
 have ix:imms xs=true:=Zh fun x h=>(Uz (hx x h)).1
 have nx:nols xs=true:=ZU fun x h=>(Uz (hx x h)).2.1
 have hz:xs.length≤sizeLine:=Yh (by omega)
 have zz:∀k:Nat,k≤10000→k≤sizeLine:=fun k h=>Yh (by omega)
 have oim:∀y,(y∈xs∨y∈JdD)→y.imm=true∧y.nol=true:=fun y h=>by
  rcases h with h | h
  ·exact⟨(Uz (hx y h)).1,(Uz (hx y h)).2.1⟩
  ·exact⟨(Uz (Jb3 h).1).1,(Uz (Jb3 h).1).2.1⟩
 have pl:QE [e]=some (.lst .m xs):=by cases hd<;>simp[QE,ix,hz]
 let isl:Bool:=match e with
  | .lst _ _=>true
  | _=>false
 have il:pIsi [e,.ty "list"]=some (.bl isl):=by cases hd<;>rfl
 have s1:∀X:CS,sSeq (sPar 2 3 (Jb (cL QE (Jb (JG (cVar 1)) cNil)) (Jb (Jo Jf (aOw (cMv 0) (some 0) (aRo (cK (.int 8)) aNil))) cNil))) X (BR t d none none none none)=X (BR T1 d (some (.lst .m xs)) (some (.int way)) none none):=fun X=>by
  refine Jk ?_ rfl
  unfold BR
  simp[hth,pl,d8,nx]
 have s2:∀X:CS,sSeq (sPar 4 5 (Jb (Jo Jf (aOw (cMv 0) (some 0) (aRo (c2 pAdd (cL pLen (Jb (cVar 2) cNil)) (cK (.int 1))) aNil))) (Jb (Jo Jf (aOw (cMv 0) (some 0) (aRo (c2 pAdd (cL pLen (Jb (cVar 2) cNil)) (cK (.int 1))) aNil))) cNil))) X (BR T1 d (some (.lst .m xs)) (some (.int way)) none none)=X (BR T3 d (some (.lst .m xs)) (some (.int way)) (some (.int (ai:Nat))) (some (.int (oi:Nat)))):=fun X=>by
  refine Jk ?_ rfl
  unfold BR
  simp[hz,da,db]
 have fin:∀(ys:List D) (T:Tp) (o3 o4 o5:Option D) (M:CS),(∀y∈ys,y∈xs∨y∈JdD)→ys.length≤xs.length+1→wzs ys≤3 * wzs xs+111→Ul (BR t d none none none none)=sSeq M (sRet (cIf (cTt (cL pIsi (Jb (JG (cVar 1)) (Jb (cK (.ty "list")) cNil)))) (cGet 2) (cL Jai (Jb (cVar 2) cNil)))) (BR T3 d (some (.lst .m xs)) (some (.int way)) (some (.int (ai:Nat))) (some (.int (oi:Nat)))) →
   M (BR T3 d (some (.lst .m xs)) (some (.int way)) (some (.int (ai:Nat))) (some (.int (oi:Nat))))=.nx (BR T d (some (.lst .m ys)) o3 o4 o5) →
   ∃R ys t',Ua [tp t,d]=.ok R [tp t',d]∧(R=.lst .m ys∨R=.ftu ys)∧(∀y∈ys,y∈xs∨y∈JdD)∧ys.length≤xs.length+1∧wzs ys≤3 * wzs xs+111:=fun ys T o3 o4 o5 M h1 h2 h2w h3 h4=>by
  have iy:imms ys=true:=Zh fun y h=>(oim y (h1 y h)).1
  have ny:nols ys=true:=ZU fun y h=>(oim y (h1 y h)).2
  have hy:ys.length≤sizeLine:=zz _ (by omega)
  cases hI:isl with
  | true =>
   rw[hI]at il
   refine⟨.lst .m ys,ys,T,JN (env:=BR T d none o3 o4 o5) ⟨rfl,by decide⟩ rfl ?_ rfl,.inl rfl,h1,h2,h2w⟩
   show Ul (BR t d none none none none)=_
   rw[h3]
   refine Jk h4 ?_
   unfold BR
   simp[hth,il,ny]
  | false =>
   rw[hI]at il
   refine⟨.ftu ys,ys,T,JN (env:=BR T d (some (.lst .m ys)) o3 o4 o5) ⟨rfl,by decide⟩ rfl ?_ rfl,.inr rfl,h1,h2,h2w⟩
   show Ul (BR t d none none none none)=_
   rw[h3]
   refine Jk h4 ?_
   unfold BR
   have pf:Jai [.lst .m ys]=some (.ftu ys):=by show (if imms ys=true then _ else none)=_;rw[iy];rfl
   simp[hth,il,pf]
 have fin6:∀(M Z:CS),Ul (BR t d none none none none)=sSeq M Z (BR T3 d (some (.lst .m xs)) (some (.int way)) (some (.int (ai:Nat))) (some (.int (oi:Nat)))) →
   M (BR T3 d (some (.lst .m xs)) (some (.int way)) (some (.int (ai:Nat))) (some (.int (oi:Nat))))=(sRet (cIf (cTt (cL pIsi (Jb (JG (cVar 1)) (Jb (cK (.ty "list")) cNil)))) (cL Jai (Jb (cVar 2) cNil)) (cGet 2))) (BR T3 d (some (.lst .m xs)) (some (.int way)) (some (.int (ai:Nat))) (some (.int (oi:Nat)))) →
   ∃R ys t',Ua [tp t,d]=.ok R [tp t',d]∧(R=.lst .m ys∨R=.ftu ys)∧(∀y∈ys,y∈xs∨y∈JdD)∧ys.length≤xs.length+1∧wzs ys≤3 * wzs xs+111:=fun M Z h3 h4=>by
  cases hI:isl with
  | false =>
   rw[hI]at il
   refine⟨.lst .m xs,xs,T3,JN (env:=BR T3 d none (some (.int way)) (some (.int (ai:Nat))) (some (.int (oi:Nat)))) ⟨rfl,by decide⟩ rfl ?_ rfl,.inl rfl,fun y h=>.inl h,by omega,by omega⟩
   show Ul (BR t d none none none none)=_
   rw[h3]
   refine JY (h4.trans ?_)
   unfold BR
   simp[hth,il,nx]
  | true =>
   rw[hI]at il
   refine⟨.ftu xs,xs,T3,JN (env:=BR T3 d (some (.lst .m xs)) (some (.int way)) (some (.int (ai:Nat))) (some (.int (oi:Nat)))) ⟨rfl,by decide⟩ rfl ?_ rfl,.inr rfl,fun y h=>.inl h,by omega,by omega⟩
   show Ul (BR t d none none none none)=_
   rw[h3]
   refine JY (h4.trans ?_)
   unfold BR
   have pf:Jai [.lst .m xs]=some (.ftu xs):=by show (if imms xs=true then _ else none)=_;rw[ix];rfl
   simp[hth,il,pf]
 have hA:=cut_to7 xs ai
 have hB:=JeE xs (ai+1)
 have hC:=cut_mid7 xs ai
 have hE:=JeE xs ai
 rw[show ((ai+1:Nat):Int)=(ai:Int)+1 by push_cast;rfl]at hB
 have sub:∀{zs:List D},zs.Sublist xs→imms zs=true∧nols zs=true:=fun {zs} s=>⟨Zh fun y h=>(oim y (.inl (s.subset h))).1,ZU fun y h=>(oim y (.inl (s.subset h))).2⟩
 have sA:(xs.take ai).Sublist xs:=List.take_sublist _ _
 have sB:(xs.drop (ai+1)).Sublist xs:=List.drop_sublist _ _
 have sC:((xs.drop ai).take 1).Sublist xs:=(List.take_sublist _ _).trans (List.drop_sublist _ _)
 have sE:(xs.drop ai).Sublist xs:=List.drop_sublist _ _
 have lA:(xs.take ai).length=ai:=by rw[List.length_take];omega
 have lB:(xs.drop (ai+1)).length=xs.length - (ai+1):=List.length_drop ..
 have lC:((xs.drop ai).take 1).length≤1:=by rw[List.length_take];omega
 have wAE:wzs (xs.take ai)+wzs (xs.drop ai)=wzs xs:=by rw[←Ja8,List.take_append_drop]
 have wB:wzs (xs.drop (ai+1))≤wzs (xs.drop ai):=by
  have:(xs.drop (ai+1)).Sublist (xs.drop ai):=by
   rw[←List.drop_drop];exact List.drop_sublist _ _
  exact JgX this
 have wC:=JgX sC
 have lE:(xs.drop ai).length=xs.length - ai:=List.length_drop ..
 unfold Ul at fin fin6
 simp only[s1,s2]at fin fin6
 by_cases w0:way=0
 ·refine fin (xs.take ai++xs.drop (ai+1)) T3 (some (.int way)) (some (.int (ai:Nat))) (some (.int (oi:Nat))) _ (fun y hy=>.inl ((List.mem_append.mp hy).elim (fun z=>sA.subset z) fun z=>sB.subset z)) (by rw[List.length_append,lA,lB];omega) (by rw[Ja8];omega) rfl ?_
  have z1:(xs.take ai).length+(xs.drop (ai+1)).length≤sizeLine:=zz _ (by omega)
  have i1:=(sub sA).1
  have i2:=(sub sB).1
  generalize xs.take ai=A at *
  generalize xs.drop (ai+1)=B at *
  unfold BR
  simp[w0,hA,hB,ix,i1,i2,z1]
 by_cases w1:way=1
 ·have i1:=(sub sA).1
  have i2:=(sub sC).1
  have i3:=(sub sE).1
  have i4:imms (xs.take ai++(xs.drop ai).take 1)=true:=Zh fun y h=>(oim y (.inl ((List.mem_append.mp h).elim (fun z=>sA.subset z) fun z=>sC.subset z))).1
  refine fin (xs.take ai++(xs.drop ai).take 1++xs.drop ai) T3 (some (.int way)) (some (.int (ai:Nat))) (some (.int (oi:Nat))) _ (fun y hy=>.inl ((List.mem_append.mp hy).elim (fun z=>(List.mem_append.mp z).elim (fun z=>sA.subset z) fun z=>sC.subset z) fun z=>sE.subset z)) (by rw[List.length_append,List.length_append,lA,lE];omega) (by rw[Ja8,Ja8];omega) rfl ?_
  have z1:(xs.take ai).length+((xs.drop ai).take 1).length≤sizeLine:=zz _ (by omega)
  have z2:(xs.take ai).length+((xs.drop ai).take 1).length+(xs.drop ai).length≤sizeLine:=zz _ (by omega)
  generalize (xs.drop ai).take 1=C at *
  generalize xs.take ai=A at *
  generalize xs.drop ai=E at *
  unfold BR
  simp[w1,hA,hC,hE,ix,i1,i2,i3,i4,z1,z2,-List.append_assoc]
 by_cases w2:way=2
 ·by_cases hlt:ai < xs.length∧oi < xs.length
  ·obtain⟨ha,ho⟩:=hlt
   have g1:atI xs (ai:Int)=some xs[ai]:=by rw[Ze ha,List.getElem?_eq_getElem ha]
   have g2:atI xs (oi:Int)=some xs[oi]:=by rw[Ze ho,List.getElem?_eq_getElem ho]
   have o1:=oim xs[ai] (.inl (List.getElem_mem ha))
   have o2:=oim xs[oi] (.inl (List.getElem_mem ho))
   have m1:xs[ai]∈xs:=List.getElem_mem ha
   have m2:xs[oi]∈xs:=List.getElem_mem ho
   have hws:wzs ((xs.set ai xs[oi]).set oi xs[ai])≤3 * wzs xs+111:=by
    have q1:=Jfg (v:=xs[oi]) ha
    have q2:=Jfg (xs:=xs.set ai xs[oi]) (i:=oi) (v:=xs[ai]) (by rw[List.length_set];exact ho)
    have q3:=Jfd m1
    have q4:=Jfd m2
    omega
   generalize xs[ai]=u at *
   generalize xs[oi]=v at *
   have t1:stD (.lst .m xs) (.int (ai:Nat)) v=some (.lst .m (xs.set ai v)):=by
    show (ixN xs.length (ai:Int)).map _=_
    rw[Jdx ha];rfl
   have t2:stD (.lst .m (xs.set ai v)) (.int (oi:Nat)) u=some (.lst .m ((xs.set ai v).set oi u)):=by
    show (ixN (xs.set ai v).length (oi:Int)).map _=_
    rw[Jdx (by rw[List.length_set];exact ho)];rfl
   have ia:(ai:Int) < (xs.length:Int):=by omega
   have io:(oi:Int) < (xs.length:Int):=by omega
   refine fin ((xs.set ai v).set oi u) T3 (some (.int way)) (some (.int (ai:Nat))) (some (.int (oi:Nat))) _ (fun y hy=>.inl ?_) (by simp) hws rfl ?_
   ·rcases List.mem_or_eq_of_mem_set hy with z | z
    ·rcases List.mem_or_eq_of_mem_set z with z | z
     ·exact z
     ·rw[z];exact m2
    ·rw[z];exact m1
   ·unfold BR
    simp[w2,hz,ia,io,g1,g2,o1,o2,lVar,t1,t2]
  ·refine fin xs T3 (some (.int way)) (some (.int (ai:Nat))) (some (.int (oi:Nat))) _ (fun y hy=>.inl hy) (by omega) (by omega) rfl ?_
   unfold BR
   by_cases ha:ai < xs.length
   ·have ho:¬ oi < xs.length:=fun z=>hlt ⟨ha,z⟩
    simp[w2,hz,ha,ho]
   ·simp[w2,hz,ha]
 by_cases w3:way=3
 ·refine fin xs.reverse T3 (some (.int way)) (some (.int (ai:Nat))) (some (.int (oi:Nat))) _ (fun y hy=>.inl (List.mem_reverse.mp hy)) (by simp) (by rw[wzs_rev];omega) rfl ?_
  unfold BR
  simp[w3,ix]
 by_cases w4:way=4
 ·obtain⟨o,T4,eo,ho⟩:=Jis T3
  have fo:=Jdm ho
  have fox:=(Jg1 o ho).1
  have ho:=Jfn ho
  generalize hoT:o.thaw=oT at *
  have hins:Jb7 (.lst .m xs) [.int (ai:Nat),oT]=some (.lst .m (xs.take ai++[oT]++xs.drop ai),.non):=by
   show (if xs.length < sizeLine∧(0:Int)≤(ai:Nat)∧((ai:Nat):Int) < 2 ^ 63 then _ else _)=_
   rw[if_pos ⟨QS (by omega),by omega,by omega⟩]
   rfl
  refine fin (xs.take ai++[oT]++xs.drop ai) T4 (some (.int way)) (some (.int (ai:Nat))) (some (.int (oi:Nat))) _ (fun y hy=>?_) (by rw[List.length_append,List.length_append,lA,lE];simp;omega) (by
   have:=(Jb3 ho).2
   have e1:wzs [oT]=wz oT+1:=by simp[wzs]
   rw[Ja8,Ja8,e1];omega) rfl ?_
  ·rcases List.mem_append.mp hy with z | z
   ·rcases List.mem_append.mp z with z | z
    ·exact .inl (sA.subset z)
    ·rw[List.mem_singleton.mp z];exact .inr ho
   ·exact .inl (sE.subset z)
  ·unfold BR
   simp[w4,eo,fo.1,fo.2,fox,hoT,lVar,hins,-List.append_assoc]
 by_cases w5:way=5
 ·refine fin (xs.take ai) T3 (some (.int way)) (some (.int (ai:Nat))) (some (.int (oi:Nat))) _ (fun y hy=>.inl (sA.subset hy)) (by omega) (by omega) rfl ?_
  unfold BR
  simp[w5,hA,ix]
 by_cases w6:way=6
 ·refine fin6 _ _ rfl ?_
  unfold BR
  simp[w6]
 ·refine fin xs T3 (some (.int way)) (some (.int (ai:Nat))) (some (.int (oi:Nat))) _ (fun y hy=>.inl hy) (by omega) (by omega) rfl ?_
  unfold BR
  simp[w0,w1,w2,w3,w4,w5,w6]
end VS
namespace VS
open PySem L2 SeqAt
theorem Jh2 (x y:Str):(x++y).cps.toList=x.cps.toList++y.cps.toList:=TL.tl_append x y
theorem app_ln (x y:Str):(x++y).length=x.length+y.length:=by
 show (x++y).cps.size=x.cps.size+y.cps.size
 rw[←Array.length_toList,Jh2,List.length_append,Array.length_toList,Array.length_toList]
def aB (k:Nat) (s:Str):Bool:=decide (s.length≤k) && s.cps.toList.all fun c=>decide (c < 128)
theorem aB_cat {k j:Nat} {x y:Str} (h1:aB k x=true) (h2:aB j y=true):aB (k+j) (x++y)=true:=by
 unfold aB at *
 rw[app_ln,Jh2,List.all_append]
 simp only[Bool.and_eq_true,decide_eq_true_eq]at *
 exact⟨by omega,h1.2,h2.2⟩
theorem aB_cut {k:Nat} {x:Str} (h:aB k x=true) (lo hi:Option Int):aB k (cutS x lo hi)=true:=by
 unfold aB at *
 simp only[Bool.and_eq_true,decide_eq_true_eq,List.all_eq_true]at *
 have s:(cutS x lo hi).cps.toList.Sublist x.cps.toList:=by
  unfold cutS
  simp only
  exact(List.take_sublist _ _).trans (List.drop_sublist _ _)
 refine⟨?_,fun c hc=>h.2 c (s.subset hc)⟩
 have h1:(cutS x lo hi).length=(cutS x lo hi).cps.toList.length:=(Array.length_toList ..).symm
 have h2:x.length=x.cps.toList.length:=(Array.length_toList ..).symm
 have:=s.length_le
 omega
theorem up_all:((List.range 128).all fun c=>decide ((Unicode.upperOf c).length≤1) && (Unicode.upperOf c).all fun u=>decide (u < 128))=true:=by decide +kernel
theorem aB_up {k:Nat} {x:Str} (h:aB k x=true):aB k (Txt.upper x)=true:=by
 unfold aB at *
 simp only[Bool.and_eq_true,decide_eq_true_eq,List.all_eq_true]at *
 have up:∀c < 128,(Unicode.upperOf c).length≤1∧∀u∈Unicode.upperOf c,u < 128:=fun c hc=>by
  have:=List.all_eq_true.mp up_all c (List.mem_range.mpr hc)
  simpa using this
 have e:(Txt.upper x).cps.toList=x.cps.toList.flatMap Unicode.upperOf:=by
  show ((x.cps.mapIdx fun _ c=>(Unicode.upperOf c).toArray).flatten).toList=_
  rw[Array.toList_flatten,Array.toList_mapIdx]
  have:∀l:List Nat,((l.mapIdx fun _ c=>(Unicode.upperOf c).toArray).map Array.toList).flatten=l.flatMap Unicode.upperOf:=fun l=>by
   induction l with
   | nil=>rfl
   | cons c l ih=>simp[List.mapIdx_cons]at ih ⊢;simpa using ih
  exact this _
 have hl:∀l:List Nat,(∀c∈l,c < 128)→(l.flatMap Unicode.upperOf).length≤l.length:=fun l=>by
  induction l with
  | nil=>simp
  | cons c l ih =>
   intro h
   have:=ih fun c hc=>h c (by simp[hc])
   have:=(up c (h c (by simp))).1
   simp only[List.flatMap_cons,List.length_append,List.length_cons];omega
 refine⟨?_,fun c hc=>?_⟩
 ·have h1:(Txt.upper x).length=(Txt.upper x).cps.toList.length:=(Array.length_toList ..).symm
  have h2:x.length=x.cps.toList.length:=(Array.length_toList ..).symm
  rw[h1,e]
  have:=hl _ h.2
  omega
 ·rw[e]at hc
  obtain⟨a,ha,hu⟩:=List.mem_flatMap.mp hc
  exact(up a (h.2 a ha)).2 c hu
theorem Jg3 {i:Int} (h:i.natAbs≤10 ^ 35):aB 38 (toString i:String)=true:=by
 have h2:(10:Nat) ^ 35 < 10 ^ 36:=by decide
 have e:=int_text_length_le10 (a:=i) (k:=36) (by decide) (Nat.lt_of_le_of_lt h h2)
 unfold aB
 rw[Bool.and_eq_true,decide_eq_true_eq,List.all_eq_true]
 constructor
 ·have:(Str.ofString (toString i)).length=(toString i).length:=ofString_length _
  show (Str.ofString (toString i)).length≤38
  omega
 ·intro c hc
  refine decide_eq_true ?_
  have e:(Str.ofString (toString i)).cps.toList=(toString i).toList.map Char.toNat:=by
   rw[Str.ofString_eq_toList]
  have hc:c∈(Str.ofString (toString i)).cps.toList:=hc
  rw[e]at hc
  obtain⟨ch,hm,rfl⟩:=List.mem_map.mp hc
  rcases PyProof.Rows.int_sign i ch hm with h | h
  ·unfold Char.isDigit at h
   simp only[Bool.and_eq_true,decide_eq_true_eq]at h
   have h2:=h.2
   have h3:ch.toNat≤57:=by
    show ch.val.toNat≤57
    exact UInt32.le_iff_toNat_le.mp h2
   omega
  ·subst h
   decide
theorem JeV {n:Str} (h:UB n=true):aB 8 n=true:=by
 unfold UB at h
 unfold aB
 simp only[Bool.and_eq_true,decide_eq_true_eq,List.all_eq_true]at *
 refine⟨h.1.2,fun c hc=>?_⟩
 have:∀c∈("abcdefghijklmnopqrstuvwxyz" : Str).cps.toList,c < 128:=by decide
 exact this c (h.2 c hc)
theorem pz_s {n m b:Nat} {s:Str}:pzb (n+1) m b (.str s)=aB (50+b) s:=rfl
theorem Jb4 {k j:Nat} {s:Str} (h:aB k s=true) (hk:k≤j):aB j s=true:=by
 unfold aB at *
 simp only[Bool.and_eq_true,decide_eq_true_eq]at *
 exact⟨by omega,h.2⟩
theorem JeP {s:Str}:wz (.str s)=s.length:=rfl
theorem JeR {i:Int} (h:i.natAbs≤10 ^ 35):wz (.int i)≤130:=(JhL h).2
def pw35 {b:Nat} (hb:b≤50):10 ^ 31 * (b+1)≤10 ^ 35:=by
 have:10 ^ 31 * (b+1)≤10 ^ 31 * 51:=Nat.mul_le_mul_left _ (by omega)
 have h2:10 ^ 31 * 51≤10 ^ 35:=by decide
 omega
def SPE (T:Tp) (d N:D) (o3 o4:Option D):Env:=[some (tp T),some d,some N,o3,o4]
structure Rz (n m b:Nat) (d e:D):Prop where
 th:d.thaw=e
 ok:pzb n m b e=true
 im:d.imm=true
 no:d.nol=true
 rw:d.thaw=d∨∃xs,d=.ftu xs
structure Bent (n m b w:Nat) (R:D):Prop where
 ok:pzb (n+3) (m+1) (b+1) R.fix.thaw=true
 no:R.nol=true
 wt:wz R.fix.thaw≤3 * w+230
 im:R.fix.imm=true∧R.fix.nol=true
 rw:R.fix.thaw=R.fix∨∃xs,R.fix=.ftu xs
@[simp] theorem thaw_int (i:Int):(D.int i).thaw=.int i:=(rfl)
@[simp] theorem thaw_str (s:Str):(D.str s).thaw=.str s:=(rfl)
@[simp] theorem thaw_non:D.non.thaw=.non:=(rfl)
@[simp] theorem thaw_bl (x:Bool):(D.bl x).thaw=.bl x:=(rfl)
theorem JaU {ds:List D} (h:∀d∈ds,d.thaw=d):thaws ds=ds:=by
 induction ds with
 | nil=>rfl
 | cons d ds ih =>
  show d.thaw::thaws ds=_
  rw[h d (by simp),ih fun x hx=>h x (by simp[hx])]
theorem JcA:∀{n m b:Nat} {d:D},pzb n m b d=true→d.thaw=d
 | 0,_,_,_,h=>by simp[pzb]at h
 | n+1,m,b,d,h=>by
  cases d with
  | non=>rfl
  | bl _=>rfl
  | int i=>rfl
  | str s=>rfl
  | tup ds =>
   simp only[pzb,Bool.and_eq_true,decide_eq_true_eq,List.all_eq_true]at h
   show D.tup (thaws ds)=_
   rw[JaU fun x hx=>JcA (h.2 x hx)]
  | lst g ds =>
   cases g<;>simp only[pzb,Bool.and_eq_true,decide_eq_true_eq,List.all_eq_true]at h<;>first
    | (cases h;done)
    | (show D.lst .f (thaws ds)=_
       rw[JaU fun x hx=>JcA (h.2 x hx)])
  | _=>simp[pzb]at h
theorem Rz.plain {n m b:Nat} {d:D} (h:pzb n m b d=true):Rz n m b d d:=⟨JcA h,h,(Uz h).1,(Uz h).2.1,.inl (JcA h)⟩
theorem Rz.same {n m b:Nat} {d e:D} (h:Rz n m b d e) (hL:isL e=false):d=e:=by
 rcases h.rw with q | ⟨xs,q⟩
 ·rw[←h.th,q]
 ·have:=h.th
  rw[q]at this
  rw[←this]at hL
  cases hL
theorem Bent.of {n m b w:Nat} {R:D} (h:pzb (n+3) (m+1) (b+1) R=true) (hw:wz R≤230):Bent n m b w R∧R.imm=true:=by
 have f:=Uz h
 have th:=JcA h
 refine⟨⟨by rw[f.2.2,th];exact h,f.2.1,?_,⟨by rw[f.2.2];exact f.1,by rw[f.2.2];exact f.2.1⟩,by rw[f.2.2];exact .inl th⟩,f.1⟩
 rw[f.2.2,th]
 omega
theorem Bent.odd {n m b w:Nat} {o:D} (ho:o∈Jaa++QZ) (hm:10≤m):Bent n m b w o:=by
 have oo:=Jb3 (Jfn ho)
 obtain⟨f1,f2⟩:=Jg1 o ho
 have fi:=Jdm ho
 exact⟨by rw[f1];exact JaJ (by omega) (by omega) (by omega) oo.1,fi.2,by rw[f1];omega,by rw[f1];exact fi,by rw[f1];exact f2⟩
theorem JiE {n m b:Nat} {d:D} (h:pzb n m b d=true) (hL:isL d=true):∃k xs,n=k+1∧Rw xs d∧(∀x∈xs,pzb k m b x=true)∧xs.length≤m:=by
 cases n with
 | zero=>simp[pzb]at h
 | succ n =>
  cases d with
  | tup ds=>simp only[pzb,Bool.and_eq_true,decide_eq_true_eq,List.all_eq_true]at h;exact⟨n,ds,rfl,.t,h.2,h.1⟩
  | lst g ds=>cases g<;>simp only[pzb,Bool.and_eq_true,decide_eq_true_eq,List.all_eq_true]at h<;>first | (cases h;done) | exact⟨n,ds,rfl,.l,h.2,h.1⟩
  | _=>simp[isL]at hL
theorem JiH {n m b:Nat} {xs:List D} {d:D} (hb:b≤50) (hd:Rw xs d) (h:∀x∈xs,pzb n m b x=true):wz d=wzs xs:=by
 cases hd
 ·exact Jfb hb h
 ·exact Ja6 hb h
theorem JhW {n m b:Nat} {ys:List D} (h:∀y∈ys,pzb n m b y=true) (hl:ys.length≤m):∀R:D,(R=.lst .m ys∨R=.ftu ys)→pzb (n+1) m b R.fix.thaw=true∧R.nol=true∧(b≤50→wz R.fix.thaw=wzs ys)∧(R.fix.imm=true∧R.fix.nol=true)∧(R.fix.thaw=R.fix∨∃xs,R.fix=.ftu xs):=fun R hR=>by
 have fx:fixs ys=ys:=Jem fun y hy=>(Uz (h y hy)).2.2
 have ix:imms ys=true:=Zh fun y hy=>(Uz (h y hy)).1
 have nx:nols ys=true:=ZU fun y hy=>(Uz (h y hy)).2.1
 have tx:thaws ys=ys:=JaU fun y hy=>JcA (h y hy)
 have key:(decide (ys.length≤m) && ys.all (pzb n m b))=true:=by
  rw[Bool.and_eq_true,decide_eq_true_eq,List.all_eq_true];exact⟨hl,h⟩
 rcases hR with rfl | rfl
 ·have e:(D.lst .m ys).fix=.lst .f ys:=by show D.lst .f (fixs ys)=_;rw[fx]
  have e2:(D.lst .f ys).thaw=.lst .f ys:=by show D.lst .f (thaws ys)=_;rw[tx]
  rw[e,e2]
  exact⟨key,by show ((Fl.m == .m || Fl.m == .f) && nols ys)=true;rw[nx];rfl,fun hb=>Jfb hb h,⟨by show ((Fl.f == .l || Fl.f == .f) && imms ys)=true;rw[ix];rfl,by show ((Fl.f == .m || Fl.f == .f) && nols ys)=true;rw[nx];rfl⟩,.inl rfl⟩
 ·have e:(D.ftu ys).fix=.ftu ys:=by show D.ftu (fixs ys)=_;rw[fx]
  have e2:(D.ftu ys).thaw=.tup ys:=by show D.tup (thaws ys)=_;rw[tx]
  rw[e,e2]
  exact⟨key,nx,fun hb=>Ja6 hb h,⟨ix,nx⟩,.inr ⟨ys,rfl⟩⟩
theorem Jcn (t:Tp) {ns:List Str} (nok:∀s∈ns,UB s=true) (hns:ns.length≤100) {d e:D} {n m b:Nat} (hq:Rz n m b d e) (hb:b≤40) (hm:10≤m) (hm2:m≤800) :
  ∃R t',Ys [tp t,d,.lst .l (ns.map D.str)]=.ok R [tp t',d]∧Bent n m b (wz e) R∧(isL e=true→∃ys,R=.lst .m ys∨R=.ftu ys):=by
 have h:=hq.ok
 have hth:=hq.th
 have fd:=And.intro hq.im hq.no
 obtain⟨k,rfl⟩:∃k,n=k+1:=by cases n with
  | zero=>simp[pzb]at h
  | succ n=>exact⟨n,rfl⟩
 have oddc:isL e=false→∀(T:Tp) (o3 o4:Option D),Uw (SPE t d (.lst .l (ns.map D.str)) none none)=(sRet (Jo ZF (aOw (cMv 0) (some 0) aNil))) (SPE T d (.lst .l (ns.map D.str)) o3 o4)→∃R t',Ys [tp t,d,.lst .l (ns.map D.str)]=.ok R [tp t',d]∧Bent (k+1) m b (wz e) R∧(isL e=true→∃ys,R=.lst .m ys∨R=.ftu ys):=fun hLe T o3 o4 hb2=>by
  obtain⟨o,T2,eo,ho⟩:=Jis T
  have fo:=Jdm ho
  have B1:Bent (k+1) m b (wz e) o:=Bent.odd ho hm
  refine⟨o,T2,JN (env:=SPE T2 d (.lst .l (ns.map D.str)) o3 o4) ⟨rfl,by decide⟩ rfl ?_ rfl,B1,fun z=>by rw[hLe]at z;cases z⟩
  show Uw (SPE t d (.lst .l (ns.map D.str)) none none)=_
  rw[hb2]
  unfold SPE
  simp[eo,fo]
 cases hL:isL e with
 | true =>
  obtain⟨k',xs,ek,hd,hx,hl⟩:=JiE h hL
  have ek:k=k':=by omega
  subst ek
  obtain⟨R,ys,T,eb,hR,hy,hyl,hyw⟩:=v_bent_row t hd hth fd hx (by omega)
  have hy2:∀y∈ys,pzb (k+3) (m+1) (b+1) y=true:=fun y hq=>by
   rcases hy y hq with z | z
   ·exact JaJ (by omega) (by omega) (by omega) (hx y z)
   ·exact JaJ (by omega) (by omega) (by omega) (Jb3 z).1
  obtain⟨r1,r2,r3,r4,r5⟩:=JhW hy2 (by omega) R hR
  have wd:=JiH (by omega) hd hx
  have hw:wzs ys≤3 * wz e+230:=by omega
  refine⟨R,T,JN (env:=SPE T d (.lst .l (ns.map D.str)) none none) ⟨rfl,by decide⟩ rfl ?_ rfl,⟨JaJ (by omega) (by omega) (by omega) r1,r2,by rw[r3 (by omega)];exact hw,r4,r5⟩,fun _=>⟨ys,hR⟩⟩
  show Uw (SPE t d (.lst .l (ns.map D.str)) none none)=_
  unfold Uw
  refine JY ?_
  have isi:pIsi [e,.tup [.ty "list", .ty "tuple"]]=some (.bl true):=by cases hd<;>rfl
  unfold SPE
  simp[hth,isi,eb,fd,r2]
 | false =>
  have hde:=hq.same hL
  subst hde
  clear hq
  have d9:=YJ t (m:=9) (by decide) (by decide)
  have q0:=Zy (t:=t) (m:=9) (by decide)
  have q1:=UA (t:=t) (m:=9) (by decide)
  generalize drV t 9=way at *
  generalize drT t 9=T1 at *
  have isi:pIsi [d,.tup [.ty "list", .ty "tuple"]]=some (.bl false):=by
   cases d<;>first | rfl | (simp[isL]at hL;done) | (simp[pzb]at h;done)
  have s1:∀X:CS,sSeq (sIf (cTt (cL pIsi (Jb (JG (cVar 1)) (Jb (cTup (Jb (cK (.ty "list")) (Jb (cK (.ty "tuple")) cNil))) cNil)))) (sRet (Jo Ua (aOw (cMv 0) (some 0) (aOw (cMv 1) (some 1) aNil)))) sNil) X (SPE t d (.lst .l (ns.map D.str)) none none)=X (SPE t d (.lst .l (ns.map D.str)) none none):=fun X=>by
   refine Jk ?_ rfl
   unfold SPE
   generalize ns.map D.str=NN at *
   simp[hth,isi]
  have s2:∀X:CS,sSeq (sAsg (Jo Jf (aOw (cMv 0) (some 0) (aRo (cK (.int 9)) aNil))) (gSet 3)) X (SPE t d (.lst .l (ns.map D.str)) none none)=X (SPE T1 d (.lst .l (ns.map D.str)) (some (.int way)) none):=fun X=>by
   refine Jk ?_ rfl
   unfold SPE
   generalize ns.map D.str=NN at *
   simp[d9]
  cases d with
  | int i =>
   have hi:i.natAbs≤10 ^ 31 * (b+1):=by simpa [pzb] using h
   have p35:=pw35 (b:=b+1) (by omega)
   have e31:10 ^ 31 * (b+1+1)=10 ^ 31 * (b+1)+10 ^ 31:=by rw[Nat.mul_add]
   have c20:(10:Nat) ^ 20≤10 ^ 31:=by decide
   have c31:(1:Nat)≤10 ^ 31:=by decide
   have n20:((10:Int) ^ 20).natAbs=10 ^ 20:=by decide
   have pint:∀z:Int,z.natAbs≤10 ^ 31 * (b+1)+10 ^ 31→Bent (k+1) m b (wz (.int i)) (.int z)∧(D.int z).imm=true:=fun z hz=>Bent.of (by
    show decide (z.natAbs≤10 ^ 31 * (b+1+1))=true
    exact decide_eq_true (by omega)) (by
    have:=JeR (i:=z) (by omega);omega)
   have pstr:Bent (k+1) m b (wz (.int i)) (.str (toString i:String))∧(D.str (toString i:String)).imm=true:=Bent.of (by
    rw[pz_s];exact Jb4 (Jg3 (by omega)) (by omega)) (by
    have:=Jg3 (i:=i) (by omega)
    unfold aB at this
    simp only[Bool.and_eq_true,decide_eq_true_eq]at this
    rw[JeP];omega)
   have hlog:i.natAbs.log2 < 1920:=by
    have h1:(10:Nat) ^ 35 < 2 ^ 128:=by decide
    by_cases h0:i.natAbs=0
    ·rw[h0];decide
    ·have:=(Nat.log2_lt h0).mpr (show i.natAbs < 2 ^ 128 by omega)
     omega
   have ps:Jf7 [.int i]=some (.str (toString i:String)):=by
    show (if i.natAbs.log2 < 1920 then _ else _)=_
    rw[if_pos hlog]
   let L:List D:=[.int (i+1),.int (i - 1),.int (-i),.bl (i == 1),.str (toString i:String),.non,.tup [.int i],.int 0,.int (i+10 ^ 20)]
   have eL:(cLst (Jb (c2 pAdd (JG (cVar 1)) (cK (.int 1))) (Jb (c2 pSub (JG (cVar 1)) (cK (.int 1))) (Jb (c1 pNeg (JG (cVar 1))) (Jb (c2 pEq (JG (cVar 1)) (cK (.int 1))) (Jb (cL Jf7 (Jb (JG (cVar 1)) cNil)) (Jb (cK .non) (Jb (cTup (Jb (cImm (JG (cVar 1))) cNil)) (Jb (cK (.int 0)) (Jb (c2 pAdd (JG (cVar 1)) (c2 pPow (cK (.int 10)) (cK (.int 20)))) cNil)))))))))) (SPE T1 (.int i) (.lst .l (ns.map D.str)) (some (.int way)) none)=.ok (.lst .m L) (SPE T1 (.int i) (.lst .l (ns.map D.str)) (some (.int way)) none):=by
    have pp:pPow (.int 10) (.int 20)=some (.int (10 ^ 20)):=rfl
    have z9:9≤sizeLine:=UY (by decide)
    simp only[L]
    generalize hS:(D.str (toString i:String))=SS at *
    unfold SPE
    generalize ns.map D.str=NN at *
    generalize (10:Int) ^ 20=E20 at *
    simp[ps,pp,z9]
   have hall:∀x∈L,Bent (k+1) m b (wz (.int i)) x∧x.imm=true:=fun x hx=>by
    simp only[L,List.mem_cons,List.not_mem_nil,or_false]at hx
    rcases hx with rfl | rfl | rfl | rfl | rfl | rfl | rfl | rfl | rfl
    ·exact pint _ (by omega)
    ·exact pint _ (by omega)
    ·exact pint _ (by omega)
    ·exact Bent.of rfl (Nat.zero_le _)
    ·exact pstr
    ·exact Bent.of rfl (Nat.zero_le _)
    ·refine Bent.of ?_ ?_
     ·show (decide (1≤m+1) && ([D.int i].all (pzb (k+3) (m+1) (b+1))))=true
      have:pzb (k+3) (m+1) (b+1) (.int i)=true:=decide_eq_true (by omega)
      simp[this]
     ·have:=JeR (i:=i) (by omega)
      have e:wz (.tup [.int i])=wz (.int i)+1+0:=rfl
      omega
    ·exact pint _ (by show (0:Nat)≤_;omega)
    ·exact pint _ (by
      have:=Int.natAbs_add_le i (10 ^ 20)
      omega)
   obtain⟨x,mx,gx⟩:=Jea (xs:=L) q0 (by show way < 9;omega)
   obtain⟨B1,B2⟩:=hall x mx
   refine⟨x,T1,JN (env:=SPE T1 (.int i) (.lst .l (ns.map D.str)) (some (.int way)) none) ⟨rfl,by decide⟩ rfl ?_ rfl,B1,fun z=>by cases z⟩
   show Uw (SPE t (.int i) (.lst .l (ns.map D.str)) none none)=_
   unfold Uw
   rw[s1,s2]
   refine JY (if_t (env1:=SPE T1 (.int i) (.lst .l (ns.map D.str)) (some (.int way)) none) rfl ?_)
   generalize L=LL at *
   unfold SPE at *
   generalize ns.map D.str=NN at *
   simp[-Jiw,eL,gx,B1.no,B2]
  | str s =>
   have hs:aB (50+b) s=true:=by rw[←pz_s (n:=k) (m:=m)];exact h
   have hsl:s.length≤50+b:=by unfold aB at hs;simp only[Bool.and_eq_true,decide_eq_true_eq]at hs;exact hs.1
   have e12:((ns.length:Int)+2)=((ns++[("lone" : Str), "abcdefgh"]).length:Nat):=by simp
   have d2:=YJ T1 (m:=(ns.length:Int)+2) (by omega) (by omega)
   have u0:=Zy (t:=T1) (m:=(ns.length:Int)+2) (by omega)
   have u1:=UA (t:=T1) (m:=(ns.length:Int)+2) (by omega)
   generalize drV T1 ((ns.length:Int)+2)=r2 at *
   generalize drT T1 ((ns.length:Int)+2)=T2 at *
   obtain⟨y,my,gy⟩:=Jea (xs:=(ns++[("lone" : Str), "abcdefgh"]).map D.str) u0 (by rw[List.length_map,←e12];exact u1)
   obtain⟨o,mo,rfl⟩:=List.mem_map.mp my
   have ho:aB 8 o=true:=by
    rcases List.mem_append.mp mo with z | z
    ·exact JeV (nok o z)
    ·simp only[List.mem_cons,List.not_mem_nil,or_false]at z
     rcases z with rfl | rfl<;>decide
   have pstr:∀z:Str,aB (51+b) z=true→Bent (k+1) m b (wz (.str s)) (.str z)∧(D.str z).imm=true:=fun z hz=>Bent.of (by
    rw[pz_s];exact Jb4 hz (by omega)) (by
    unfold aB at hz
    simp only[Bool.and_eq_true,decide_eq_true_eq]at hz
    rw[JeP];omega)
   have ca:aB (51+b) (s ++ "a")=true:=Jb4 (aB_cat hs (show aB 1 "a" = true by decide)) (by omega)
   have cc:aB (51+b) (cutS s none (some (-1)))=true:=Jb4 (aB_cut hs _ _) (by omega)
   have cu:aB (51+b) (Txt.upper s)=true:=Jb4 (aB_up hs) (by omega)
   let L:List D:=[.str o,.str o,.str o,.str (s ++ "a"),.str (cutS s none (some (-1))),.str (Txt.upper s),.non,.lst .f [.str s],.str o]
   have t1:∀X:CS,sSeq (sAsg (cImm (cIdx (c2 pAdd (cL QE (Jb (cVar 2) cNil)) (cLst (Jb (cK (.str "lone")) (Jb (cK (.str "abcdefgh")) cNil)))) (Jo Jf (aOw (cMv 0) (some 0) (aRo (c2 pAdd (cL pLen (Jb (cVar 2) cNil)) (cK (.int 2))) aNil))))) (gSet 4)) X (SPE T1 (.str s) (.lst .l (ns.map D.str)) (some (.int way)) none)=X (SPE T2 (.str s) (.lst .l (ns.map D.str)) (some (.int way)) (some (.str o))):=fun X=>by
    refine Jk ?_ rfl
    have iN:imms (ns.map D.str)=true:=Ql (f:=D.str) (fun _=>rfl) ns
    have hN:(ns.map D.str).length=ns.length:=List.length_map ..
    have z1:ns.length≤sizeLine:=Yh (by omega)
    have z2:ns.length+2≤sizeLine:=Yh (by omega)
    have em:(ns++[("lone" : Str), "abcdefgh"]).map D.str=ns.map D.str++[.str "lone", .str "abcdefgh"]:=by simp
    rw[em]at gy
    unfold SPE
    generalize ns.map D.str=NN at *
    simp[iN,hN,z1,z2,d2,gy]
   have eL:(cLst (Jb (cImm (cVar 4)) (Jb (cImm (cVar 4)) (Jb (cImm (cVar 4)) (Jb (c2 pAdd (JG (cVar 1)) (cK (.str "a"))) (Jb (cSl (JG (cVar 1)) pNo (pAt (c1 pNeg (cK (.int 1))))) (Jb (cM0S Jcr (JG (cVar 1))) (Jb (cK .non) (Jb (cFix (cLst (Jb (cImm (JG (cVar 1))) cNil))) (Jb (cImm (cVar 4)) cNil)))))))))) (SPE T2 (.str s) (.lst .l (ns.map D.str)) (some (.int way)) (some (.str o)))=.ok (.lst .m L) (SPE T2 (.str s) (.lst .l (ns.map D.str)) (some (.int way)) (some (.str o))):=by
    have z9:9≤sizeLine:=UY (by decide)
    have pa:pAdd (.str s) (.str "a")=some (.str (s ++ "a")):=by
     have:s.length+("a" : Str).length≤sizeLine:=Yh (by show s.length+1≤_;omega)
     simp[pAdd,orP2,Jfq,pI,Jc9,JdN,JdS,this]
    have ps:pSl (.str s) none (some (-1))=some (.str (cutS s none (some (-1)))):=by
     show (if s.length≤sizeLine then _ else _)=_
     rw[if_pos (Yh (by omega))]
    have pu:Jcr s=some (.str (Txt.upper s)):=by
     unfold Jcr;rw[if_pos (by omega)]
    simp only[L]
    unfold SPE
    generalize ns.map D.str=NN at *
    generalize s ++ "a" = sa at *
    generalize cutS s none (some (-1))=sc at *
    generalize Txt.upper s=su at *
    simp[pa,ps,pu,z9]
   have hall:∀x∈L,Bent (k+1) m b (wz (.str s)) x∧x.imm=true:=fun x hx=>by
    simp only[L,List.mem_cons,List.not_mem_nil,or_false]at hx
    have po:=pstr o (Jb4 ho (by omega))
    rcases hx with rfl | rfl | rfl | rfl | rfl | rfl | rfl | rfl | rfl
    ·exact po
    ·exact po
    ·exact po
    ·exact pstr _ ca
    ·exact pstr _ cc
    ·exact pstr _ cu
    ·exact Bent.of rfl (Nat.zero_le _)
    ·refine Bent.of ?_ ?_
     ·show (decide (1≤m+1) && ([D.str s].all (pzb (k+3) (m+1) (b+1))))=true
      have:pzb (k+3) (m+1) (b+1) (.str s)=true:=by rw[pz_s];exact Jb4 hs (by omega)
      simp[this]
     ·have e:wz (.lst .f [.str s])=s.length+1+0:=rfl
      omega
    ·exact po
   obtain⟨x,mx,gx⟩:=Jea (xs:=L) q0 (by show way < 9;omega)
   obtain⟨B1,B2⟩:=hall x mx
   refine⟨x,T2,JN (env:=SPE T2 (.str s) (.lst .l (ns.map D.str)) (some (.int way)) (some (.str o))) ⟨rfl,by decide⟩ rfl ?_ rfl,B1,fun z=>by cases z⟩
   show Uw (SPE t (.str s) (.lst .l (ns.map D.str)) none none)=_
   unfold Uw
   rw[s1,s2]
   refine Jk (env1:=SPE T1 (.str s) (.lst .l (ns.map D.str)) (some (.int way)) none) (if_f (env1:=SPE T1 (.str s) (.lst .l (ns.map D.str)) (some (.int way)) none) rfl rfl) ?_
   refine JY (if_t (env1:=SPE T1 (.str s) (.lst .l (ns.map D.str)) (some (.int way)) none) rfl ?_)
   rw[t1]
   generalize L=LL at *
   unfold SPE at *
   generalize ns.map D.str=NN at *
   simp[-Jiw,eL,gx,B1.no,B2]
  | non =>
   refine oddc rfl T1 (some (.int way)) none ?_
   unfold Uw
   rw[s1,s2]
   refine Jk (env1:=SPE T1 .non (.lst .l (ns.map D.str)) (some (.int way)) none) rfl (Jk (env1:=SPE T1 .non (.lst .l (ns.map D.str)) (some (.int way)) none) rfl rfl)
  | bl x =>
   refine oddc rfl T1 (some (.int way)) none ?_
   unfold Uw
   rw[s1,s2]
   refine Jk (env1:=SPE T1 (.bl x) (.lst .l (ns.map D.str)) (some (.int way)) none) (by cases x<;>rfl) (Jk (env1:=SPE T1 (.bl x) (.lst .l (ns.map D.str)) (some (.int way)) none) (by cases x<;>rfl) rfl)
  | _=>first | (simp[isL]at hL;done) | (simp[pzb]at h)
end VS
namespace VS
open PySem L2 SeqAt
def SPO (T:Tp) (d N:D) (o3 o4:Option D):Env:=[some (tp T),some d,some N,o3,o4]
theorem JdY {ns:List Str} (nok:∀s∈ns,UB s=true) (hns:ns.length≤100) {b m:Nat} (hb:b≤40) (hm:10≤m) (hm2:m≤800):∀(k:Nat) (t:Tp) {d e:D} {n:Nat},n≤k→Rz n m b d e →
  ∃R t',JU k [tp t,d,.lst .l (ns.map D.str)]=.ok R [tp t',d]∧Bent n m b (wz e) R∧(isL e=true→∃ys,R=.lst .m ys∨R=.ftu ys)
 | 0,t,d,e,n,hn,hq=>by
  have h:=hq.ok
  have:n=0:=by omega
  subst this
  simp[pzb]at h
 | k+1,t,d,e,n,hn,hq=>by
  have h:=hq.ok
  have hth:=hq.th
  have fd:=And.intro hq.im hq.no
  have lns:=Zq ns
  have stepc:∀(T:Tp),Ue (JU k) (SPO t d (.lst .l (ns.map D.str)) none none)=(sRet (Jo Ys (aOw (cMv 0) (some 0) (aOw (cMv 1) (some 1) (aRo (cVar 2) aNil))))) (SPO T d (.lst .l (ns.map D.str)) none none)→∃R t',JU (k+1) [tp t,d,.lst .l (ns.map D.str)]=.ok R [tp t',d]∧Bent n m b (wz e) R∧(isL e=true→∃ys,R=.lst .m ys∨R=.ftu ys):=fun T h1=>by
   obtain⟨R,T2,e1,B⟩:=Jcn T nok hns hq hb hm hm2
   refine⟨R,T2,JN (env:=SPO T2 d (.lst .l (ns.map D.str)) none none) ⟨rfl,by decide⟩ rfl ?_ rfl,B⟩
   show Ue (JU k) (SPO t d (.lst .l (ns.map D.str)) none none)=_
   rw[h1]
   have rn:=B.1.no
   unfold SPO
   generalize ns.map D.str=NN at *
   simp[lns,e1,fd,rn]
  have hLc:isL e=false∨isL e=true:=by cases isL e<;>simp
  rcases hLc with hL | hL
  case inl =>
   have isi:pIsi [e,.tup [.ty "list", .ty "tuple"]]=some (.bl false):=by
    cases n with
    | zero=>simp[pzb]at h
    | succ n=>cases e<;>first | rfl | (simp[isL]at hL;done) | (simp[pzb]at h;done)
   refine stepc t ?_
   unfold Ue
   have:∀X:CS,sSeq (sIf (tcOr (Yq (cTt (cL pIsi (Jb (JG (cVar 1)) (Jb (cTup (Jb (cK (.ty "list")) (Jb (cK (.ty "tuple")) cNil))) cNil))))) (tcOr (cTt (c2 pEq (cL pLen (Jb (JG (cVar 1)) cNil)) (cK (.int 0)))) (cTt (c2 pEq (Jo Jf (aOw (cMv 0) (some 0) (aRo (cK (.int 3)) aNil))) (cK (.int 0)))))) (sRet (Jo Ys (aOw (cMv 0) (some 0) (aOw (cMv 1) (some 1) (aRo (cVar 2) aNil))))) sNil) X (SPO t d (.lst .l (ns.map D.str)) none none)=(sRet (Jo Ys (aOw (cMv 0) (some 0) (aOw (cMv 1) (some 1) (aRo (cVar 2) aNil))))) (SPO t d (.lst .l (ns.map D.str)) none none):=fun X=>by
    obtain⟨R,T2,e1,B⟩:=Jcn t nok hns hq hb hm hm2
    have rn:=B.1.no
    have r1:(sRet (Jo Ys (aOw (cMv 0) (some 0) (aOw (cMv 1) (some 1) (aRo (cVar 2) aNil))))) (SPO t d (.lst .l (ns.map D.str)) none none)=.rt R (SPO T2 d (.lst .l (ns.map D.str)) none none):=by
     unfold SPO
     generalize ns.map D.str=NN at *
     simp[lns,e1,fd,rn]
    rw[r1]
    refine JY (if_t (env1:=SPO t d (.lst .l (ns.map D.str)) none none) ?_ r1)
    unfold SPO
    simp[hth,isi]
   exact this _
  case inr =>
   obtain⟨n',xs,rfl,hd,hx,hl⟩:=JiE h hL
   have isi:pIsi [e,.tup [.ty "list", .ty "tuple"]]=some (.bl true):=by cases hd<;>rfl
   have len:pLen [e]=some (.int (xs.length:Nat)):=by cases hd<;>simp[pLen]
   by_cases h0:xs.length=0
   ·refine stepc t ?_
    obtain⟨R,T2,e1,B⟩:=Jcn t nok hns hq hb hm hm2
    have rn:=B.1.no
    have r1:(sRet (Jo Ys (aOw (cMv 0) (some 0) (aOw (cMv 1) (some 1) (aRo (cVar 2) aNil))))) (SPO t d (.lst .l (ns.map D.str)) none none)=.rt R (SPO T2 d (.lst .l (ns.map D.str)) none none):=by
     unfold SPO
     generalize ns.map D.str=NN at *
     simp[lns,e1,fd,rn]
    rw[r1]
    unfold Ue
    refine JY (if_t (env1:=SPO t d (.lst .l (ns.map D.str)) none none) ?_ r1)
    unfold SPO
    simp[hth,isi,len,h0]
   ·have hpos:0 < (xs.length:Int):=by omega
    have hb0:((xs.length:Int) == 0)=false:=by
     have:¬ ((xs.length:Int)=0):=by omega
     simpa using this
    have d3:=YJ t (m:=3) (by decide) (by decide)
    generalize hr3:drV t 3=r3 at *
    generalize drT t 3=T1 at *
    by_cases h3:r3=0
    ·refine stepc T1 ?_
     obtain⟨R,T2,e1,B⟩:=Jcn T1 nok hns hq hb hm hm2
     have rn:=B.1.no
     have r1:(sRet (Jo Ys (aOw (cMv 0) (some 0) (aOw (cMv 1) (some 1) (aRo (cVar 2) aNil))))) (SPO T1 d (.lst .l (ns.map D.str)) none none)=.rt R (SPO T2 d (.lst .l (ns.map D.str)) none none):=by
      unfold SPO
      generalize ns.map D.str=NN at *
      simp[lns,e1,fd,rn]
     rw[r1]
     unfold Ue
     refine JY (if_t (env1:=SPO T1 d (.lst .l (ns.map D.str)) none none) ?_ r1)
     unfold SPO
     simp[hth,isi,len,h0,hb0,d3,h3]
    ·have h3b:(r3 == 0)=false:=by simpa using h3
     have da:=YJ T1 (m:=(xs.length:Int)) hpos (by omega)
     have p0:=Zy (t:=T1) (m:=(xs.length:Int)) hpos
     have p1:=UA (t:=T1) (m:=(xs.length:Int)) hpos
     generalize drV T1 (xs.length:Int)=a1 at *
     generalize drT T1 (xs.length:Int)=T2 at *
     obtain⟨ai,rfl⟩:∃i:Nat,a1=(i:Nat):=⟨a1.toNat,by omega⟩
     have ha:ai < xs.length:=by omega
     have gx:atI xs (ai:Int)=some xs[ai]:=by rw[Ze ha,List.getElem?_eq_getElem ha]
     have mx:xs[ai]∈xs:=List.getElem_mem ha
     have px:=hx _ mx
     have fx:=Uz px
     obtain⟨R,T3,eR,B,_⟩:=JdY nok hns hb hm hm2 k T2 (d:=xs[ai]) (e:=xs[ai]) (n:=n') (by omega) (Rz.plain px)
     have ws:=Jfg (v:=R.fix.thaw) ha
     have wm:=Jfd mx
     have wd:=JiH (by omega) hd hx
     have ix:imms xs=true:=Zh fun x h=>(Uz (hx x h)).1
     have nx:nols xs=true:=ZU fun x h=>(Uz (hx x h)).2.1
     have hz:xs.length≤sizeLine:=Yh (by omega)
     have pl:QE [e]=some (.lst .m xs):=by cases hd<;>simp[QE,ix,hz]
     have BR:=Uz B.ok
     obtain⟨YS,eYS⟩:∃YS,YS=xs.set ai R.fix.thaw:=⟨_,rfl⟩
     rw[←eYS]at ws
     have t1:stD (.lst .m xs) (.int (ai:Nat)) R.fix.thaw=some (.lst .m (YS)):=by
      show (ixN xs.length (ai:Int)).map _=_
      rw[Jdx ha,eYS];rfl
     have hy:∀y∈YS,pzb (n'+3) (m+1) (b+1) y=true:=fun y hq=>by
      rw[eYS]at hq
      rcases List.mem_or_eq_of_mem_set hq with z | z
      ·exact JaJ (by omega) (by omega) (by omega) (hx y z)
      ·rw[z];exact B.ok
     have hyl:(YS).length≤m+1:=by rw[eYS,List.length_set];omega
     have iy:imms (YS)=true:=Zh fun y h=>(Uz (hy y h)).1
     have ny:nols (YS)=true:=ZU fun y h=>(Uz (hy y h)).2.1
     have hzy:(YS).length≤sizeLine:=by rw[eYS,List.length_set];exact hz
     have wB:=B.wt
     have mk:∀R':D,(R'=.lst .m (YS)∨R'=.ftu (YS))→Bent (n'+1) m b (wz e) R':=fun R' hR'=>by
      obtain⟨r1,r2,r3,r4,r5⟩:=JhW hy hyl R' hR'
      refine⟨JaJ (by omega) (by omega) (by omega) r1,r2,?_,r4,r5⟩
      rw[r3 (by omega),wd]
      omega
     generalize xs[ai]=x at *
     have s1:∀X:CS,sSeq (sIf (tcOr (Yq (cTt (cL pIsi (Jb (JG (cVar 1)) (Jb (cTup (Jb (cK (.ty "list")) (Jb (cK (.ty "tuple")) cNil))) cNil))))) (tcOr (cTt (c2 pEq (cL pLen (Jb (JG (cVar 1)) cNil)) (cK (.int 0)))) (cTt (c2 pEq (Jo Jf (aOw (cMv 0) (some 0) (aRo (cK (.int 3)) aNil))) (cK (.int 0)))))) (sRet (Jo Ys (aOw (cMv 0) (some 0) (aOw (cMv 1) (some 1) (aRo (cVar 2) aNil))))) sNil) X (SPO t d (.lst .l (ns.map D.str)) none none)=X (SPO T1 d (.lst .l (ns.map D.str)) none none):=fun X=>by
      refine Jk (if_f (env1:=SPO T1 d (.lst .l (ns.map D.str)) none none) ?_ rfl) rfl
      unfold SPO
      simp[hth,isi,len,h0,hb0,d3,h3,h3b]
     have s2:∀X:CS,sSeq (sAsg (Jo Jf (aOw (cMv 0) (some 0) (aRo (cL pLen (Jb (JG (cVar 1)) cNil)) aNil))) (gSet 3)) X (SPO T1 d (.lst .l (ns.map D.str)) none none)=X (SPO T2 d (.lst .l (ns.map D.str)) (some (.int (ai:Nat))) none):=fun X=>by
      refine Jk ?_ rfl
      unfold SPO
      simp[hth,len,da]
     have s3:∀X:CS,sSeq (sAsg (cL QE (Jb (JG (cVar 1)) cNil)) (gSet 4)) X (SPO T2 d (.lst .l (ns.map D.str)) (some (.int (ai:Nat))) none)=X (SPO T2 d (.lst .l (ns.map D.str)) (some (.int (ai:Nat))) (some (.lst .m xs))):=fun X=>by
      refine Jk ?_ rfl
      unfold SPO
      simp[hth,pl,nx]
     have s4:∀X:CS,sSeq (sAsg (JG (cFix (Jo (JU k) (aOw (cMv 0) (some 0) (aOw (cImm (cIdx (cVar 4) (cVar 3))) none (aRo (cVar 2) aNil)))))) (JaC 4 (lVar 4) (cVar 3))) X (SPO T2 d (.lst .l (ns.map D.str)) (some (.int (ai:Nat))) (some (.lst .m xs)))=X (SPO T3 d (.lst .l (ns.map D.str)) (some (.int (ai:Nat))) (some (.lst .m (YS)))):=fun X=>by
      refine Jk ?_ rfl
      have rn:=B.no
      unfold SPO
      generalize ns.map D.str=NN at *
      simp[gx,fx,lns,eR,lVar,t1,BR,rn]
     let isl:Bool:=match e with
      | .lst _ _=>true
      | _=>false
     have il:pIsi [e,.ty "list"]=some (.bl isl):=by cases hd<;>rfl
     cases hI:isl with
     | true =>
      rw[hI]at il
      refine⟨.lst .m (YS),T3,JN (env:=SPO T3 d (.lst .l (ns.map D.str)) (some (.int (ai:Nat))) none) ⟨rfl,by decide⟩ rfl ?_ rfl,mk _ (.inl rfl),fun _=>⟨_,.inl rfl⟩⟩
      show Ue (JU k) (SPO t d (.lst .l (ns.map D.str)) none none)=_
      unfold Ue
      rw[s1,s2,s3,s4]
      unfold SPO
      simp[hth,il,ny]
     | false =>
      rw[hI]at il
      refine⟨.ftu (YS),T3,JN (env:=SPO T3 d (.lst .l (ns.map D.str)) (some (.int (ai:Nat))) (some (.lst .m (YS)))) ⟨rfl,by decide⟩ rfl ?_ rfl,mk _ (.inr rfl),fun _=>⟨_,.inr rfl⟩⟩
      show Ue (JU k) (SPO t d (.lst .l (ns.map D.str)) none none)=_
      unfold Ue
      rw[s1,s2,s3,s4]
      unfold SPO
      have pf:Jai [.lst .m YS]=some (.ftu YS):=by show (if imms YS=true then _ else none)=_;rw[iy];rfl
      simp[hth,il,pf]
end VS
namespace VS
open PySem L2 SeqAt
section
variable {d:D} {js:List Jn} {a b:Str} {dj:D}
theorem v_shows_anyW (hd:Hold jt js dj) {n:Nat} (h:pln n d=true) (hl:∀ds,d=.tup ds→ds.length≤900):(isWy d=false∧YT [dj,.str a,.str b,d]=.ok (.bl false) [])∨∃w:List (Int × Int),d=.tup (w.map pt)∧isWy d=true∧w.all sdB=true∧w.length≤900∧YT [dj,.str a,.str b,d]=.ok (.bl (okW js a w b)) []:=by
 cases hw:isWy d with
 | false =>
  refine .inl ⟨rfl,?_⟩
  have v:=JfJ h
  rw[hw]at v
  have l:=(Yw h).2
  refine JN (env:=[some dj,some (.str a),some (.str b),some d,none]) ⟨rfl,by decide⟩ rfl ?_ rfl
  unfold JaE
  refine JY ?_
  simp[YF,l,v]
 | true =>
  obtain⟨w,rfl,hs⟩:=Jf4 hw
  have hl':w.length≤900:=by have:=hl _ rfl;simpa using this
  exact .inr ⟨w,rfl,rfl,hs,hl',Jdc hd hl'⟩
theorem okW_nd {w:List (Int × Int)} {l:List Str} (e:wk js a w=some l):okW js a w b=(decide ((a::l).getLast?=some b) && decide (a::l).Nodup):=by
 unfold okW okR;rw[e]
 simp only[List.cons_append,List.nil_append]
 rw[Bool.eq_iff_iff]
 simp only[decide_eq_true_eq,Bool.and_eq_true]
 exact⟨fun h=>⟨h.2,h.1⟩,fun h=>⟨h.2,h.1⟩⟩
theorem lenSet_strs (l:List Str) (hl:l.length≤1000) (g:Fl) {env:Env} {i:Nat} (e:env[i]?=some (some (.lst g (l.map D.str)))):(c2 pEq (Zw (cVar i)) (cL pLen (Jb (cVar i) cNil))) env=.ok (.bl (decide l.Nodup)) env:=by
 have h:HSt l (.lst .l (l.map D.str)):=.l
 obtain⟨k,hk1,hk2,hk3⟩:=h.lset hl
 have hk4:k.length≤4000:=by omega
 have sq:Zm (.lst g (l.map D.str))=some (l.map D.str):=rfl
 have el:pLen [.lst g (l.map D.str)]=some (.int (l.length:Nat)):=by
  have hz:l.length≤sizeLine:=Yh (by omega)
  simp[pLen]
 generalize l.map D.str=LL at *
 by_cases hn:l.Nodup
 ·have:=hk3.mpr hn
  rw[decide_eq_true hn]
  simp[e,sq,hk1,hk4,this,el]
 ·have h1:¬ (ddup k).length=l.length:=fun z=>hn (hk3.mp z)
  rw[decide_eq_false hn]
  have h2:¬ ((ddup k).length:Int)=(l.length:Int):=by omega
  simp[e,sq,hk1,hk4,h2,el]
end
end VS
namespace VS
open PySem L2 SeqAt
def Jam (js:List Jn) (p:Int × Int):Int:=match js[p.1.toNat]? with
 | some j=>p.2 * j.2.2
 | none=>0
def okRg (js:List Jn) (t:Int) (a:Str) (w:List (Int × Int)):Bool:=match wk js a w with
 | some l=>!w.isEmpty && (decide (w.map (·.1)).Nodup && (decide ((a::l).getLast?=some a) && (decide l.Nodup && decide (cnt t (w.map (Jam js)).sum≠0))))
 | none=>false
theorem JeC:∀xs:List D,cutD xs (some 1) none=xs.tail
 | []=>rfl
 | x::xs=>by
  have h1:HT.sIx (xs.length+1) 0 (some 1)=1:=by unfold HT.sIx;simp
  have h2:HT.sIx (xs.length+1) (xs.length+1) none=xs.length+1:=by unfold HT.sIx;rfl
  unfold cutD;simp[h1,h2]
theorem JeW:∀ms:List Int,JaN (ms.map D.int)=some (ms.map Sum.inl)
 | []=>rfl
 | m::ms=>by simp[JaN,D.key,JeW ms]
theorem JgL:∀ms:List Str,JaN (ms.map D.str)=some (ms.map Sum.inr)
 | []=>rfl
 | m::ms=>by simp[JaN,D.key,JgL ms]
theorem Jgx (ms:List Int):(ddup (ms.map (Sum.inl:Int→Key))).length=ms.length↔ms.Nodup:=by
 have:=Jde (ms.map (Sum.inl:Int→Key))
 rw[List.length_map]at this
 rw[this]
 exact⟨fun n=>List.Pairwise.of_map _ (fun x y h e=>h (by rw[e])) n,fun n=>List.Pairwise.map _ (fun x y h e=>h (by cases e;rfl)) n⟩
theorem dd_strs (ms:List Str):(ddup (ms.map (Sum.inr:Str→Key))).length=ms.length↔ms.Nodup:=by
 have:=Jde (ms.map (Sum.inr:Str→Key))
 rw[List.length_map]at this
 rw[this]
 exact⟨fun n=>List.Pairwise.of_map _ (fun x y h e=>h (by rw[e])) n,fun n=>List.Pairwise.map _ (fun x y h e=>h (by cases e;rfl)) n⟩
theorem p_unlikeI (ms:List Int) (hl:ms.length≤1000):Ye [.lst .l (ms.map D.int)]=.ok (.bl (decide ms.Nodup)) []:=by
 have kd:=JeW ms
 have hd:=Jgx ms
 have el:(ms.map D.int).length=ms.length:=List.length_map _
 have kl:(ms.map (Sum.inl:Int→Key)).length≤4000:=by simp;omega
 refine JN (env:=[some (.lst .l (ms.map D.int))]) ⟨rfl,by decide⟩ rfl ?_ rfl
 unfold Ja0
 generalize ms.map D.int=MM at *
 generalize ms.map Sum.inl=KK at *
 have hz:ms.length≤sizeLine:=Yh (by omega)
 by_cases hn:ms.Nodup
 ·have:=hd.mpr hn
  rw[decide_eq_true hn]
  simp[YF,Zm,kd,kl,this,el,hz]
 ·have h1:¬ (ddup KK).length=ms.length:=fun z=>hn (hd.mp z)
  have h2:¬ ((ddup KK).length:Int)=(ms.length:Int):=by omega
  rw[decide_eq_false hn]
  simp[YF,Zm,kd,kl,h2,el,hz]
section
variable {n:Nat} {d:D} {js:List Jn} {ns:List Str} {a:Str} {dn dj:D} {w:List (Int × Int)} {t:Int}
theorem Jiz:∀{w:List (Int × Int)} {x:Str} {l:List Str},wk js x w=some l→∀p∈w,(0≤p.1∧p.1 < js.length)∧(p.2=1∨p.2=-1)
 | [],_,_,_,p,hp=>by cases hp
 | q::w,x,l,h,p,hp=>by
  unfold wk at h
  cases e:stp js q x with
  | none=>rw[e]at h;cases h
  | some y =>
   rw[e]at h
   simp only at h
   cases e2:wk js y w with
   | none=>rw[e2]at h;cases h
   | some l2 =>
    rcases List.mem_cons.mp hp with z | z
    ·subst z
     unfold stp at e
     split at e
     ·rename_i hr
      refine⟨hr,?_⟩
      split at e
      ·by_cases h1:p.2=1
       ·exact .inl h1
       ·rw[if_neg h1]at e
        by_cases h2:p.2=-1
        ·exact .inr h2
        ·rw[if_neg h2]at e;cases e
      ·cases e
     ·cases e
    ·exact Jiz e2 p z
theorem step_at (hd:Hold jt js dj) {p:Int × Int} (h:(0≤p.1∧p.1 < js.length)∧(p.2=1∨p.2=-1)):∃j:Jn,ixD dj (.int p.1)=some (.tup [.str j.1,.str j.2.1,.int j.2.2])∧Jam js p=p.2 * j.2.2:=by
 have hin:p.1.toNat < js.length:=by omega
 obtain⟨j,eg⟩:∃j,js[p.1.toNat]?=some j:=⟨_,List.getElem?_eq_getElem hin⟩
 refine⟨j,?_,by unfold Jam;rw[eg]⟩
 have e0:((p.1.toNat:Nat):Int)=p.1:=by omega
 have at0:atI (js.map jt) ((p.1.toNat:Nat):Int)=some (jt j):=by
  rw[Ze (by simpa using hin)]
  simp[eg]
 rw[e0]at at0
 cases hd<;>exact at0
theorem JeJ (hd:Hold jt js dj) {l:List Str} (e:wk js a w=some l) (i3 i4:Nat) (g:D→Env→Option Env) (ce:CE) {env:Env} {vs:List Nat}
  (h:∀p∈w,∀j:Jn,ixD dj (.int p.1)=some (.tup [.str j.1,.str j.2.1,.int j.2.2])→(-18446744073709551616 < p.2∧p.2 < 18446744073709551616)→∃env1,g (pt p) env=some env1∧env1.length=env.length∧ce env1=.ok (.int (p.2 * j.2.2)) env1∧Ur env1 vs=env) :
  QP vs g cYes ce (w.map pt) env=some ((w.map (Jam js)).map D.int,env):=by
 have r:=Jiz e
 have:=Jbx (f:=pt) (vs:=vs) (g:=g) (ce:=ce) (env:=env) (y:=fun p=>.int (Jam js p)) (xs:=w) fun p hp=>by
  obtain⟨j,h1,h2⟩:=step_at hd (r p hp)
  have hb:-18446744073709551616 < p.2∧p.2 < 18446744073709551616:=by rcases (r p hp).2 with z | z<;>rw[z]<;>decide
  rw[h2]
  exact h p hp j h1 hb
 rw[this,List.map_map];rfl
theorem Jfv (xs:List Int):pSum [.lst .m (xs.map D.int)]=some (.int xs.sum):=e_sum1 .m xs
theorem v_steps_of (hd:Hold jt js dj) {l:List Str} (e:wk js a w=some l) (h0:0≤t) (h1:t≤1000) (hl:w.length≤1000):QI [dj,.int t,.tup (w.map pt)]=.ok (.int (cnt t (w.map (Jam js)).sum)) []:=by
 have lc:=JeJ hd e 3 4 (JI 2 (Je (gSet 3) (Je (gSet 4) JL))) (c2 QM (cVar 4) (cIdx (cIdx (cVar 0) (cVar 3)) (cK (.int 2)))) (env:=[some dj,some (.int t),some (.tup (w.map pt)),none,none]) (vs:=[3,4]) fun p hp j e1 hb=>by
  have g2:atI [D.str j.1,.str j.2.1,.int j.2.2] 2=some (.int j.2.2):=rfl
  exact⟨[some dj,some (.int t),some (.tup (w.map pt)),some (.int p.1),some (.int p.2)],rfl,rfl,by simp[e1,g2,hb],rfl⟩
 have ip:=ZO w
 have hz:w.length≤sizeLine:=Yh (by omega)
 have hzz:(w.map pt).length≤sizeLine:=by rw[List.length_map];exact hz
 have sm:=Jfv (w.map (Jam js))
 have vc:=JiB h0 h1 (w.map (Jam js)).sum
 generalize (w.map (Jam js)).sum=SS at *
 refine JN (env:=[some dj,some (.int t),some (.tup (w.map pt)),none,none]) ⟨rfl,by decide⟩ rfl ?_ rfl
 unfold JdW
 generalize w.map pt=WW at *
 generalize (w.map (Jam js)).map D.int=YY at *
 simp[YF,ip,hzz,lc,sm,vc]
def SRg (dn dj:D) (t:Int) (a:Str) (W:D) (o5 o6 o7:Option D):Env:=[some dn,some dj,some (.int t),some (.str a),some W,o5,o6,o7]
theorem v_shows_ring (hd:Hold jt js dj) (hdn:dn.lend=dn) (h0:0≤t) (h1:t≤1000) {n:Nat} (h:pln n d=true) (hl:∀ds,d=.tup ds→ds.length≤900):(isWy d=false∧UP [dn,dj,.int t,.str a,d]=.ok (.bl false) [])∨∃w:List (Int × Int),d=.tup (w.map pt)∧isWy d=true∧w.all sdB=true∧w.length≤900∧UP [dn,dj,.int t,.str a,d]=.ok (.bl (okRg js t a w)) []:=by
 have v:=JfJ h
 have ll:=(Yw h).2
 have lj:=(Hold.lend hd)
 cases hw:isWy d with
 | false =>
  refine .inl ⟨rfl,?_⟩
  rw[hw]at v
  refine JN (env:=SRg dn dj t a d none none none) ⟨rfl,by decide⟩ rfl ?_ rfl
  unfold Jap
  refine JY ?_
  unfold SRg
  simp[YF,ll,v]
 | true =>
  obtain⟨w,rfl,hs⟩:=Jf4 hw
  have hl':w.length≤900:=by have:=hl _ rfl;simpa using this
  refine .inr ⟨w,rfl,rfl,hs,hl',?_⟩
  rw[hw]at v
  have ip:=ZO w
  have lp:=Jad w
  have hz:w.length≤sizeLine:=Yh (by omega)
  have hWl:(w.map pt).length=w.length:=List.length_map _
  have lc1:=Jbx (f:=pt) (vs:=[5,6]) (g:=JI 2 (Je (gSet 5) (Je (gSet 6) JL))) (ce:=cGet 5) (env:=SRg dn dj t a (.tup (w.map pt)) none none none) (y:=fun p=>D.int p.1) (xs:=w) (fun p _=>⟨SRg dn dj t a (.tup (w.map pt)) (some (.int p.1)) (some (.int p.2)) none,rfl,rfl,by unfold SRg;simp,rfl⟩)
  have e1:(w.map fun p=>D.int p.1)=(w.map (·.1)).map D.int:=by rw[List.map_map];rfl
  rw[e1]at lc1
  have un:=p_unlikeI (w.map (·.1)) (by simp;omega)
  have li:lends ((w.map (·.1)).map D.int)=(w.map (·.1)).map D.int:=by
   have:∀xs:List Int,lends (xs.map D.int)=xs.map D.int:=fun xs=>by
    induction xs with
    | nil=>rfl
    | cons x xs ih=>rw[List.map_cons];show (D.int x).lend::lends (xs.map D.int)=_;rw[ih];rfl
   exact this _
  have emp:w.isEmpty=decide (w.length=0):=by cases w<;>simp
  have t1:(tcOr (Yq (cTt (Jo US (aRo (cVar 4) aNil)))) (tcOr (cTt (c2 pEq (cL pLen (Jb (cVar 4) cNil)) (cK (.int 0)))) (Yq (cTt (Jo Ye (aRo (cLc (JB (cVar 4)) [5,6] (JI 2 (Je (gSet 5) (Je (gSet 6) JL))) cYes (cGet 5)) aNil)))))) (SRg dn dj t a (.tup (w.map pt)) none none none)=.ok (!(!w.isEmpty && decide (w.map (·.1)).Nodup)) (SRg dn dj t a (.tup (w.map pt)) none none none):=by
   rw[emp]
   by_cases hw0:w.length=0
   ·have ew:w=[]:=List.eq_nil_of_length_eq_zero hw0
    subst ew
    unfold SRg at lc1 ⊢
    have v':US [.tup []]=.ok (.bl true) []:=v
    simp[v']
   ·have hw0':¬ (w.length:Int)=0:=by omega
    unfold SRg at lc1 ⊢
    generalize (w.map (·.1)).map D.int=YY at *
    generalize w.map pt=WW at *
    by_cases hn:(w.map (·.1)).Nodup
    ·rw[decide_eq_true hn]at un
     simp[lp,v,hWl,hz,hw0,hw0',ip,lc1,li,un,hn]
    ·rw[decide_eq_false hn]at un
     simp[lp,v,hWl,hz,hw0,hw0',ip,lc1,li,un,hn]
  cases hb:(!w.isEmpty && decide (w.map (·.1)).Nodup) with
  | false =>
   have hk:okRg js t a w=false:=by
    unfold okRg
    cases wk js a w with
    | none=>rfl
    | some l =>
     simp only
     rw[←Bool.and_assoc,hb,Bool.false_and]
   rw[hk]
   refine JN (env:=SRg dn dj t a (.tup (w.map pt)) none none none) ⟨rfl,by decide⟩ rfl ?_ rfl
   unfold Jap
   refine JY ?_
   show sIf _ _ _ (SRg dn dj t a (.tup (w.map pt)) none none none)=_
   rw[Jca,t1,hb]
   rfl
  | true =>
   rw[hb]at t1
   have s1:(sIf (tcOr (Yq (cTt (Jo US (aRo (cVar 4) aNil)))) (tcOr (cTt (c2 pEq (cL pLen (Jb (cVar 4) cNil)) (cK (.int 0)))) (Yq (cTt (Jo Ye (aRo (cLc (JB (cVar 4)) [5,6] (JI 2 (Je (gSet 5) (Je (gSet 6) JL))) cYes (cGet 5)) aNil)))))) (sRet (cK (.bl false))) sNil) (SRg dn dj t a (.tup (w.map pt)) none none none)=.nx (SRg dn dj t a (.tup (w.map pt)) none none none):=by
    rw[Jca,t1];rfl
   have v2:=Jc2 (a:=a) hd hs (by omega)
   have fin:∀(v:Bool) (M:List D),.str a::go js a w=M→nols M=true→(sSeq (sIf (tcOr (cTt (c2 pInW (cK .non) (cVar 7))) (tcOr (cTt (c2 pNe (cIdx (cVar 7) (c1 pNeg (cK (.int 1)))) (cVar 3))) (Yq (cTt (Jo Ye (aRo (cSl (cVar 7) (pAt (cK (.int 1))) pNo) aNil)))))) (sRet (cK (.bl false))) sNil) (sRet (c2 pNe (Jo QI (aRo (cVar 1) (aRo (cVar 2) (aRo (cVar 4) aNil)))) (cK (.int 0))))) (SRg dn dj t a (.tup (w.map pt)) none none (some (.lst .m M)))=.rt (.bl v) (SRg dn dj t a (.tup (w.map pt)) none none (some (.lst .m M)))→UP [dn,dj,.int t,.str a,.tup (w.map pt)]=.ok (.bl v) []:=fun v M eM nM h=>by
    rw[eM]at v2
    refine JN (env0:=SRg dn dj t a (.tup (w.map pt)) none none none) (env:=SRg dn dj t a (.tup (w.map pt)) none none (some (.lst .m M))) ⟨rfl,by decide⟩ rfl ?_ (by rfl)
    unfold Jap
    refine Jk s1 (Jk ?_ h)
    unfold SRg
    generalize w.map pt=WW at *
    simp[v2,lp,lj,nM]
   cases e:wk js a w with
   | none =>
    have ho:okRg js t a w=false:=by unfold okRg;rw[e]
    obtain⟨l,hg⟩:=JeQ e
    have eM:.str a::go js a w=(a::l).map D.str++[.non]:=by rw[hg];rfl
    have q4:pInW .non (.lst .m ((a::l).map D.str++[.non]))=some (.bl true):=by
     have h:pIn .non (.lst .m ((a::l).map D.str++[.non]))=some (.bl true):=by
      show (if eqOk 40 .non && eqOks 40 ((a::l).map D.str++[D.non]) then some (((a::l).map D.str++[D.non]).any fun d=>pyEq d .non) else none).map D.bl=_
      rw[Jcv 40 _ _ (Uq 40 (a::l)) rfl]
      have:(((a::l).map D.str++[D.non]).any fun d=>pyEq d .non)=true:=by
       rw[List.any_append];simp[pyEq]
      rw[this];rfl
     show orP2 pInS pIn .non (.lst .m ((a::l).map D.str++[.non]))=_
     have h0:pInS .non (.lst .m ((a::l).map D.str++[.non]))=none:=rfl
     unfold orP2
     rw[h0];exact h
    have nM:nols ((a::l).map D.str++[.non])=true:=by
     have:∀xs:List Str,nols (xs.map D.str++[.non])=true:=fun xs=>by
      induction xs with
      | nil=>rfl
      | cons x xs ih=>rw[List.map_cons,List.cons_append];show ((D.str x).nol && nols (xs.map D.str++[.non]))=true;rw[ih];rfl
     exact this _
    rw[ho]
    refine fin false _ eM nM (JY ?_)
    unfold SRg
    generalize (a::l).map D.str++[.non]=MM at *
    simp[q4]
   | some l =>
    have hlen:=JcL e
    have eM:.str a::go js a w=(a::l).map D.str:=by rw[Je8 e];rfl
    have q4:pInW .non (.lst .m ((a::l).map D.str))=some (.bl false):=by
     have h:=Jfx .m (a::l)
     have h2:pIn .non (.lst .m ((a::l).map D.str))=some (.bl false):=by
      show (if eqOk 40 .non && eqOks 40 ((a::l).map D.str) then some (((a::l).map D.str).any fun d=>pyEq d .non) else none).map D.bl=_
      rw[Uq 40]
      have:(((a::l).map D.str).any fun d=>pyEq d .non)=false:=by
       rw[List.any_eq_false];intro x hx
       obtain⟨y,_,rfl⟩:=List.mem_map.mp hx
       simp[pyEq]
      rw[this];rfl
     show orP2 pInS pIn .non (.lst .m ((a::l).map D.str))=_
     have h0:pInS .non (.lst .m ((a::l).map D.str))=none:=rfl
     unfold orP2
     rw[h0];exact h2
    have nM:nols ((a::l).map D.str)=true:=Qv _
    have hu:=JdZ (l:=l) (S:=.lst .l (l.map D.str)) .l (by omega)
    obtain⟨l0,c,el⟩:∃l0 c,a::l=l0++[c]:=by
     rcases List.eq_nil_or_concat (a::l) with h | ⟨l0,c,h⟩
     ·cases h
     ·exact⟨l0,c,by rw[h,List.concat_eq_append]⟩
    have q3:atI ((a::l).map D.str) (-1)=some (.str c):=by
     rw[el,List.map_append,List.map_cons,List.map_nil]
     exact ZB _ _
    have hlast:(a::l).getLast?=some c:=by rw[el];simp
    have ct:=JeC ((a::l).map D.str)
    have ct':cutD ((a::l).map D.str) (some 1) none=l.map D.str:=ct
    have isM:=Zg (a::l)
    have lsl:=Zq l
    have st:=v_steps_of hd e h0 h1 (by omega)
    have ho:okRg js t a w=(decide (c=a) && (decide l.Nodup && decide (cnt t (w.map (Jam js)).sum≠0))):=by
     unfold okRg;rw[e]
     simp only
     rw[←Bool.and_assoc,hb,Bool.true_and,hlast]
     congr 1
     rw[Bool.eq_iff_iff];simp
    rw[ho]
    generalize (w.map (Jam js)).sum=SS at *
    refine fin _ _ eM nM ?_
    have hMz:((a::l).map D.str).length≤sizeLine:=by rw[List.length_map];exact Yh (by simp;omega)
    unfold SRg
    generalize (a::l).map D.str=MM at *
    generalize l.map D.str=LL at *
    generalize w.map pt=WW at *
    by_cases hca:c=a
    ·subst hca
     by_cases hn:l.Nodup
     ·rw[decide_eq_true hn]at hu
      by_cases hs0:cnt t SS=0
      ·simp[q4,q3,ct',isM,lsl,hu,lj,lp,st,hn,hs0]
      ·simp[q4,q3,ct',isM,lsl,hu,lj,lp,st,hn,hs0]
     ·rw[decide_eq_false hn]at hu
      simp[q4,q3,ct',isM,lsl,hu,hn]
    ·have hbe:(c == a)=false:=by simpa using hca
     simp[q4,q3,hca,hbe]
end
end VS
namespace VS
open PySem L2 SeqAt
def isNm (ns:List Str):D→Bool
 | .str s=>decide (s∈ns)
 | _=>false
theorem Jdv {ns:List Str}:∀{ds:List D},ds.all (isNm ns)=true→∃l:List Str,ds=l.map D.str∧∀s∈l,s∈ns
 | [],_=>⟨[],rfl,fun _ z=>nomatch z⟩
 | d::ds,h=>by
  rw[List.all_cons,Bool.and_eq_true]at h
  obtain⟨l,rfl,hl⟩:=Jdv h.2
  cases d with
  | str s =>
   refine⟨s::l,rfl,fun x hx=>?_⟩
   rcases List.mem_cons.mp hx with z | z
   ·rw[z];simpa [isNm] using h.1
   ·exact hl x z
  | _=>simp[isNm]at h
def pB (js:List Jn) (a b:Str) (l:List Str):Bool:=decide l.Nodup && (decide (a∈l) && (decide (b∉l) && js.all fun j=>decide (j.1∈l) == decide (j.2.1∈l)))
section
variable {n:Nat} {d:D} {ns:List Str} {js:List Jn} {a b:Str} {dn dj:D}
theorem JbZ (h:pln n d=true) (hL:isL d=true):∃ds,Zm d=some ds∧(d=.lst .l ds∨d=.tup ds)∧(∀x∈ds,pln (n - 1) x=true)∧ds.length≤1000000∧∀(env:Env) (i:Nat),env[i]?=some (some d)→JB (cVar i) env=.ok ds env:=by
 cases d with
 | tup ds =>
  obtain⟨h1,h2⟩:=JaF h
  have im:imms ds=true:=by have:=(Yw h).1;simpa using this
  exact⟨ds,rfl,.inr rfl,h2,h1,fun env i e=>by simp[e,im]⟩
 | lst g ds =>
  obtain⟨rfl,h1,h2⟩:=pln_lst h
  have im:imms ds=true:=by have:=(Yw h).1;simpa using this
  exact⟨ds,rfl,.inl rfl,h2,h1,fun env i e=>by simp[e,im]⟩
 | _=>simp[isL]at hL
theorem v_is_named (hn:HSt ns dn) (h:pln n d=true):Zk [dn,d]=.ok (.bl (isNm ns d)) []:=by
 have t:=Jgk h
 unfold Zk JO JdQ
 cases d with
 | str s =>
  have:=hn.inn s
  simp[YF,UZ,Yf,t,isS,this,isNm]
 | _=>simp[YF,UZ,Yf,t,isS,isNm]
theorem Jey (hn:HSt ns dn) (h:pln n d=true) (hsz:∀ds,Zm d=some ds→ds.length≤1000) :
  (Yx [dn,d]=.ok (.bl false) []∧((isL d=false)∨∃ds,Zm d=some ds∧isL d=true∧ds.all (isNm ns)=false))∨∃l:List Str,HSt l d∧isL d=true∧(∀s∈l,s∈ns)∧l.length≤1000∧Yx [dn,d]=.ok (.bl (decide l.Nodup)) []:=by
 have vl:=Jev h
 have ll:=(Yw h).2
 have hnl:∃dn',dn.lend=dn'∧HSt ns dn':=⟨_,rfl,hn.lend⟩
 obtain⟨dn',e0,hn'⟩:=hnl
 cases hL:isL d with
 | false =>
  rw[hL]at vl
  refine .inl ⟨?_,.inl rfl⟩
  refine JN (env0:=[some dn,some d,none]) (env:=[some dn,some d,none]) ⟨rfl,by decide⟩ rfl ?_ rfl
  unfold Jaj
  refine JY ?_
  simp[YF,ll,vl]
 | true =>
  rw[hL]at vl
  obtain⟨ds,sq,hd,hx,hz,src⟩:=JbZ h hL
  have hz':=hsz ds sq
  have hzz:ds.length≤sizeLine:=Yh (by omega)
  have lc:=Jbq (vs:=[2]) (g:=gSet 2) (ce:=Jo Zk (aRo (cVar 0) (aRo (cVar 2) aNil))) (env:=[some dn,some d,none]) (y:=fun x=>.bl (isNm ns x)) (ds:=ds) fun x hx'=>by
   have px:=hx x hx'
   have l:=(Yw px).2
   have v:=v_is_named hn' px
   exact⟨[some dn,some d,some x],by simp,by simp,by simp[l,e0,v],by simp⟩
  have e:(ds.map fun x=>D.bl (isNm ns x))=(ds.map (isNm ns)).map D.bl:=by rw[List.map_map];rfl
  rw[e]at lc
  have al:pAll [.lst .m ((ds.map (isNm ns)).map D.bl)]=some (.bl (ds.all (isNm ns))):=by rw[Jbc,List.all_map];rfl
  have sc:=src [some dn,some d,none] 1 rfl
  have tst:∀v:Bool,ds.all (isNm ns)=v→(tcOr (Yq (cTt (Jo UX (aRo (cVar 1) aNil)))) (Yq (cTt (cL pAll (Jb (cLc (JB (cVar 1)) [2] (gSet 2) cYes (Jo Zk (aRo (cVar 0) (aRo (cVar 2) aNil)))) cNil))))) [some dn,some d,none]=.ok (!v) [some dn,some d,none]:=fun v hv=>by
   rw[hv]at al
   have lcc:cLc (JB (cVar 1)) [2] (gSet 2) cYes (Jo Zk (aRo (cVar 0) (aRo (cVar 2) aNil))) [some dn,some d,none]=.ok (.lst .m ((ds.map (isNm ns)).map D.bl)) [some dn,some d,none]:=by
    rw[e_lc,sc]
    simp[-List.map_map,lc,hzz]
   simp[-e_lc,-JbW,-List.map_map,ll,vl,lcc,al]
  cases hv:ds.all (isNm ns) with
  | false =>
   refine .inl ⟨?_,.inr ⟨ds,sq,rfl,hv⟩⟩
   refine JN (env0:=[some dn,some d,none]) (env:=[some dn,some d,none]) ⟨rfl,by decide⟩ rfl ?_ rfl
   unfold Jaj
   refine JY ?_
   rw[Jca,tst false hv];rfl
  | true =>
   obtain⟨l,rfl,hl⟩:=Jdv hv
   have hS:HSt l d:=by rcases hd with rfl | rfl;exact .l;exact .t
   have hl':l.length≤1000:=by simpa using hz'
   have pu:=JdZ hS hl'
   refine .inr ⟨l,hS,rfl,hl,hl',?_⟩
   refine JN (env0:=[some dn,some d,none]) (env:=[some dn,some d,none]) ⟨rfl,by decide⟩ rfl ?_ rfl
   unfold Jaj
   refine Jk (env1:=[some dn,some d,none]) ?_ ?_
   ·rw[Jca,tst true hv];rfl
   ·simp[ll,pu]
theorem hst_of {l:List Str} (h:HSt l d):Zm d=some (l.map D.str):=h.seq
theorem Jbl (hn:HSt ns dn) (hj:Hold jt js dj) (hjl:js.length≤1000) (h:pln n d=true) (hsz:∀ds,Zm d=some ds→ds.length≤1000) :
  (Yi [dn,dj,.str a,.str b,d]=.ok (.bl false) []∧((isL d=false)∨∃ds,Zm d=some ds∧isL d=true∧ds.all (isNm ns)=false))∨∃l:List Str,HSt l d∧isL d=true∧(∀s∈l,s∈ns)∧l.length≤1000∧Yi [dn,dj,.str a,.str b,d]=.ok (.bl (pB js a b l)) []:=by
 have ll:=(Yw h).2
 have hnl:∃dn',dn.lend=dn'∧HSt ns dn':=⟨_,rfl,hn.lend⟩
 obtain⟨dn',e0,hn'⟩:=hnl
 let E:Env:=[some dn,some dj,some (.str a),some (.str b),some d,none,none,none]
 rcases Jey hn' h hsz with ⟨e,hb⟩ | ⟨l,hS,hL,hl,hl',e⟩
 ·refine .inl ⟨?_,hb⟩
  refine JN (env0:=E) (env:=E) ⟨rfl,by decide⟩ rfl ?_ rfl
  unfold Jav
  refine JY ?_
  show _=O.rt _ [some dn,some dj,some (.str a),some (.str b),some d,none,none,none]
  simp[E,e0,ll,e]
 ·refine .inr ⟨l,hS,hL,hl,hl',?_⟩
  have ia:=hS.nin a
  have ib:=hS.inn b
  refine JN (env0:=E) (env:=E) ⟨rfl,by decide⟩ rfl ?_ rfl
  unfold Jav
  have lc:=Jbx (f:=jt) (vs:=[5,6,7]) (g:=JI 3 (Je (gSet 5) (Je (gSet 6) (Je (gSet 7) JL)))) (ce:=c2 pEq (c2 pInW (cVar 5) (cVar 4)) (c2 pInW (cVar 6) (cVar 4))) (env:=E) (y:=fun j=>.bl (decide (j.1∈l) == decide (j.2.1∈l))) (xs:=js) fun j hj=>by
   have i1:=hS.inn j.1
   have i2:=hS.inn j.2.1
   have eb:∀x y:Bool,pEq (.bl x) (.bl y)=some (.bl (x == y)):=fun x y=>by cases x<;>cases y<;>rfl
   refine⟨[some dn,some dj,some (.str a),some (.str b),some d,some (.str j.1),some (.str j.2.1),some (.int j.2.2)],rfl,rfl,by simp[i1,i2,eb],rfl⟩
  have e3:(js.map fun j=>D.bl (decide (j.1∈l) == decide (j.2.1∈l)))=(js.map fun j=>decide (j.1∈l) == decide (j.2.1∈l)).map D.bl:=by rw[List.map_map];rfl
  rw[e3]at lc
  have al:pAll [.lst .m ((js.map fun j=>decide (j.1∈l) == decide (j.2.1∈l)).map D.bl)]=some (.bl (js.all fun j=>decide (j.1∈l) == decide (j.2.1∈l))):=by rw[Jbc,List.all_map];rfl
  generalize hA:(js.map fun j=>decide (j.1∈l) == decide (j.2.1∈l)).map D.bl=AA at *
  have hz:js.length≤sizeLine:=Yh (by omega)
  have last:(sRet (cL pAll (Jb (cLc (JB (cVar 1)) [5,6,7] (JI 3 (Je (gSet 5) (Je (gSet 6) (Je (gSet 7) JL)))) cYes (c2 pEq (c2 pInW (cVar 5) (cVar 4)) (c2 pInW (cVar 6) (cVar 4)))) cNil))) E=.rt (.bl (js.all fun j=>decide (j.1∈l) == decide (j.2.1∈l))) E:=by
   have src:JB (cVar 1) E=.ok (js.map jt) E:=by
    have ij:=ZM js
    cases hj<;>simp[E]
   have w:Ur E [5,6,7]=E:=rfl
   have cl:ZX E [5,6,7]=true:=rfl
   have bk:Qb E E [5,6,7]=E:=rfl
   have hzz:(js.map jt).length≤sizeLine:=by rw[List.length_map];exact hz
   simp only[e_ret,e_L,e_cons,e_lc,src,R.bind,cl,hzz,and_self,if_true,w,lc,bk]
   simp[al]
  have pb:pB js a b l=(decide l.Nodup && (decide (a∈l) && (decide (b∉l) && js.all fun j=>decide (j.1∈l) == decide (j.2.1∈l)))):=rfl
  by_cases h1:l.Nodup
  ·rw[decide_eq_true h1]at e
   by_cases h2:a∈l
   ·by_cases h3:b∈l
    ·have:pB js a b l=false:=by rw[pb];simp[h3]
     rw[this]
     refine JY ?_
     show _=O.rt _ [some dn,some dj,some (.str a),some (.str b),some d,none,none,none]
     simp[E,e0,ll,e,ia,ib,h2,h3]
    ·have:pB js a b l=js.all fun j=>decide (j.1∈l) == decide (j.2.1∈l):=by rw[pb];simp[h1,h2,h3]
     rw[this]
     refine Jk (env1:=E) ?_ last
     show _=O.nx [some dn,some dj,some (.str a),some (.str b),some d,none,none,none]
     simp[E,e0,ll,e,ia,ib,h2,h3]
   ·have:pB js a b l=false:=by rw[pb];simp[h2]
    rw[this]
    refine JY ?_
    show _=O.rt _ [some dn,some dj,some (.str a),some (.str b),some d,none,none,none]
    simp[E,e0,ll,e,ia,h2]
  ·rw[decide_eq_false h1]at e
   have:pB js a b l=false:=by rw[pb];simp[h1]
   rw[this]
   refine JY ?_
   show _=O.rt _ [some dn,some dj,some (.str a),some (.str b),some d,none,none,none]
   simp[E,e0,ll,e]
end
end VS
namespace VS
open PySem L2 SeqAt
def nr (p:Str × Int):D:=.tup [.str p.1,.int p.2]
def toNr:D→Option (Str × Int)
 | .tup [.str s,.int n]=>some (s,n)
 | _=>none
theorem JgZ (p:Str × Int):toNr (nr p)=some p:=rfl
theorem JgB {d:D} {p:Str × Int} (h:toNr d=some p):d=nr p:=by
 unfold toNr at h
 split at h
 ·cases h;rfl
 ·cases h
def Jbd:List D→Option (List (Str × Int))
 | []=>some []
 | d::ds=>(toNr d).bind fun p=>(Jbd ds).map (p::·)
theorem Jcc:∀rs:List (Str × Int),Jbd (rs.map nr)=some rs
 | []=>rfl
 | p::rs=>by rw[List.map_cons,Jbd,JgZ,Jcc rs];rfl
theorem Jcd:∀{ds:List D} {rs:List (Str × Int)},Jbd ds=some rs→ds=rs.map nr
 | [],rs,h=>by cases h;rfl
 | d::ds,rs,h=>by
  rw[Jbd]at h
  obtain⟨p,h1,h⟩:=Option.bind_eq_some_iff.mp h
  obtain⟨r,h2,rfl⟩:=Option.map_eq_some_iff.mp h
  rw[List.map_cons,←JgB h1,←Jcd h2]
def vlN (rs:List (Str × Int)) (n:Str):Int:=((rs.find? fun p=>p.1 == n).map (·.2)).getD 0
theorem Jfi:∀{rs:List (Str × Int)},(rs.map (·.1)).Nodup→∀p∈rs,p.2=vlN rs p.1
 | [],_,p,h=>nomatch h
 | q::rs,nd,p,h=>by
  rw[List.map_cons]at nd
  obtain⟨n1,n2⟩:=List.nodup_cons.mp nd
  unfold vlN
  rcases List.mem_cons.mp h with z | z
  ·subst z;simp
  ·have ne:¬ q.1=p.1:=fun e=>n1 (e ▸ List.mem_map.mpr ⟨p,z,rfl⟩)
   rw[List.find?_cons_of_neg (by simpa using ne)]
   exact Jfi n2 p z
def cdN (ns:List Str) (rs:List (Str × Int)):Bool:=decide ((rs.map (·.1)).Nodup∧(∀s∈rs.map (·.1),s∈ns)∧rs.length=ns.length)
def outN (js:List Jn) (t:Int) (P:Str→Int):Bool:=js.all fun j=>decide (cnt t (P j.2.1 - P j.1 - j.2.2)=0)
def RB (ns:List Str) (js:List Jn) (t:Int) (ds:List D):Bool:=match Jbd ds with
 | some rs=>cdN ns rs && outN js t (vlN rs)
 | none=>false
def RBs (ns:List Str) (js:List Jn) (t:Int) (R:D):Bool:=isL R && match Zm R with
 | some ds=>RB ns js t ds
 | none=>false
def rw1:D→Bool
 | .tup [_,b]=>isW b
 | _=>false
def fst0:D→D
 | .tup (a::_)=>a
 | _=>.non
theorem Jc8:∀{ds:List D} {l:List Str},ds.all rw1=true→ds.map fst0=l.map D.str→∃rs:List (Str × Int),ds=rs.map nr∧rs.map (·.1)=l
 | [],l,_,h=>by cases l with
  | nil=>exact⟨[],rfl,rfl⟩
  | cons=>cases h
 | d::ds,l,h1,h2=>by
  rw[List.all_cons,Bool.and_eq_true]at h1
  cases l with
  | nil=>cases h2
  | cons s l =>
   rw[List.map_cons,List.map_cons]at h2
   injection h2 with e1 e2
   obtain⟨rs,q1,q2⟩:=Jc8 h1.2 e2
   have h3:=h1.1
   unfold rw1 at h3
   split at h3
   ·rename_i a b
    cases b<;>simp[isW]at h3
    rename_i i
    have ea:a=.str s:=e1
    refine⟨(s,i)::rs,?_,by rw[List.map_cons,q2]⟩
    rw[List.map_cons,←q1,ea];rfl
   ·cases h3
theorem rw1_nr (rs:List (Str × Int)):(rs.map nr).all rw1=true:=by
 rw[List.all_eq_true]
 intro d hd
 obtain⟨p,_,rfl⟩:=List.mem_map.mp hd
 rfl
theorem Jfw:∀rs:List (Str × Int),Jau (rs.map nr)=some (rs.map fun p=>((Sum.inr p.1:Key),D.int p.2))
 | []=>rfl
 | p::rs=>by
  have ih:=Jfw rs
  rw[List.map_cons,List.map_cons]
  show ((D.str p.1).key.bind fun k=>(Jau (rs.map nr)).map fun r=>(k,D.int p.2)::r)=_
  rw[ih];rfl
theorem imms_nr (rs:List (Str × Int)):imms (rs.map nr)=true:=Ql (fun _=>rfl) rs
theorem dict_nr {rs:List (Str × Int)} {P:Str→Int} (nd:(rs.map (·.1)).Nodup) (hv:∀p∈rs,p.2=P p.1) (g:Fl):Jaw [.lst g (rs.map nr)]=some (dN .m (rs.map (·.1)) P):=by
 have i1:=imms_nr rs
 have hp:=Jfw rs
 rw[JfS]
 show (if imms (rs.map nr)=true then (Jau (rs.map nr)).map (fun ps=>D.dct .m (mkD ps).1 (mkD ps).2) else none)=_
 rw[if_pos i1,hp,Option.map_some]
 have hn:((rs.map fun p:Str × Int=>((Sum.inr p.1:Key),D.int p.2)).map (·.1)).Nodup:=by
  rw[List.map_map]
  have:(rs.map ((fun x:Key × D=>x.1)∘fun p:Str × Int=>((Sum.inr p.1:Key),D.int p.2)))=(rs.map (·.1)).map Sum.inr:=by rw[List.map_map];rfl
  rw[this]
  exact List.Pairwise.map _ (fun x y h e=>h (by cases e;rfl)) nd
 have e3:=Jh9 (rs.map fun p:Str × Int=>((Sum.inr p.1:Key),D.int p.2)) ([],[]) (by simpa using hn)
 have e4:mkD (rs.map fun p:Str × Int=>((Sum.inr p.1:Key),D.int p.2))=((rs.map (·.1)).map Sum.inr,(rs.map (·.1)).map fun n=>D.int (P n)):=by
  show List.foldl (fun (acc:List Key × List D) (p:Key × D)=>putP acc p.1 p.2) ([],[]) _=_
  rw[e3]
  refine Prod.ext ?_ ?_
  ·show []++_=_
   rw[List.nil_append,List.map_map,List.map_map];rfl
  ·show []++(rs.map fun p:Str × Int=>((Sum.inr p.1:Key),D.int p.2)).map (·.2)=(rs.map (·.1)).map fun n=>D.int (P n)
   rw[List.nil_append,List.map_map,List.map_map]
   exact List.map_congr_left fun p hp=>by
    show D.int p.2=D.int (P p.1)
    rw[hv p hp]
 rw[e4];rfl
theorem Jd9 {ns:List Str} {rs:List (Str × Int)} (h:cdN ns rs=true):(rs.map (·.1)).Nodup∧(∀m∈ns,m∈rs.map (·.1)):=by
 obtain⟨h1,h2,h3⟩:=of_decide_eq_true h
 refine⟨h1,fun m hm=>?_⟩
 refine Classical.byContradiction fun hc=>?_
 have nd:(m::rs.map (·.1)).Nodup:=List.nodup_cons.mpr ⟨hc,h1⟩
 have:=Zr (ys:=ns) nd fun x hx=>(List.mem_cons.mp hx).elim (fun e=>e ▸ hm) (h2 x)
 simp at this
 omega
theorem Jgb {ns:List Str}:∀{l:List Str},(∀s∈l,s∈ns)→(l.map D.str).all (isNm ns)=true
 | [],_=>rfl
 | s::l,h=>by
  rw[List.map_cons,List.all_cons,Jgb fun x hx=>h x (by simp[hx])]
  have:=h s (by simp)
  simp[isNm,this]
theorem pln_map {ds:List D} {n:Nat} (h:∀d∈ds,pln n d=true) (hl:ds.length≤1000000):pln (n+1) (.lst .l ds)=true:=by
 show (decide (ds.length≤1000000) && ds.all (pln n))=true
 rw[decide_eq_true hl,Bool.true_and,List.all_eq_true];exact h
section
variable {ns:List Str} {js:List Jn} {t:Int} {dn dj:D}
theorem Hold.srcJ (h:Hold jt js dj) (i:Nat) {env:Env} (e:env[i]?=some (some dj)):JB (cVar i) env=.ok (js.map jt) env:=by
 have ij:=ZM js
 cases h<;>simp[e,ij]
theorem Jeq (h:pln 59 d=true) (hr:isR 2 d=true):∃a b,d=.tup [a,b]∧pln 58 a=true∧pln 58 b=true:=by
 cases d<;>simp[isR]at hr
 rename_i ds
 obtain⟨_,h2⟩:=JaF h
 match ds,hr with
 | [a,b],_=>exact⟨a,b,rfl,h2 a (by simp),h2 b (by simp)⟩
theorem v_shows_any (hn:HSt ns dn) (hnl':dn.lend=dn) (hdj:Hold jt js dj) (hnl:ns.length≤1000) (hjl:js.length≤1000) (h0:0≤t) (h1:t≤1000) (hone:∀j∈js,j.1∈ns) (hoth:∀j∈js,j.2.1∈ns) {Pd:D} (hp:pln 60 Pd.thaw=true) (hsz:∀ds,Zm Pd.thaw=some ds→ds.length≤900)
  (hdc:∀rs:List (Str × Int),isL Pd.thaw=true→Zm Pd.thaw=some (rs.map nr)→Jeg [Pd]=Jaw [.lst .l (rs.map nr)]) :
  ZA [dn,dj,.int t,Pd]=.ok (.bl (RBs ns js t Pd.thaw)) []:=by
 generalize hR:Pd.thaw=R at *
 let E:Option D→Env:=fun o5=>[some dn,some dj,some (.int t),some Pd,none,o5,none,none,none]
 have th:∀o5,(JG (cVar 3)) (E o5)=.ok R (E o5):=fun o5=>by simp[E,hR]
 have lR:=(Yw hp).2
 have iR:=(Yw hp).1
 have vl:=Jev hp
 have vlE:∀o5,(Jo UX (aRo (JG (cVar 3)) aNil)) (E o5)=.ok (.bl (isL R)) (E o5):=fun o5=>by
  have th':=th o5
  generalize JG (cVar 3)=CT at *
  generalize E o5=EE at *
  simp[th',lR,vl]
 cases hL:isL R with
 | false =>
  have e:RBs ns js t R=false:=by unfold RBs;rw[hL];rfl
  rw[e]
  refine JN (env0:=E none) (env:=E none) ⟨rfl,by decide⟩ rfl ?_ rfl
  unfold ZK
  refine JY (Jcb (env1:=E none) ?_ rfl)
  have v0:=vlE none
  rw[hL]at v0
  simp[-JeS,v0]
 | true =>
 obtain⟨ds,sq,hd,hx,hz,_⟩:=JbZ hp hL
 have hz9:=hsz ds sq
 have hzz:ds.length≤sizeLine:=Yh (by omega)
 have eRB:RBs ns js t R=RB ns js t ds:=by unfold RBs;rw[hL,sq];rfl
 rw[eRB]
 have ids:imms ds=true:=Zh fun d hd=>(Yw (hx d hd)).1
 have srcR:∀o5,JB (JG (cVar 3)) (E o5)=.ok ds (E o5):=fun o5=>by
  have th':=th o5
  generalize JG (cVar 3)=CT at *
  generalize E o5=EE at *
  rcases hd with rfl | rfl<;>simp[th',ids]
 have lenR:pLen [R]=some (.int (ds.length:Nat)):=by
  rcases hd with rfl | rfl<;>simp[pLen,hzz]
 have l1:=Jbq (vs:=[4]) (g:=gSet 4) (ce:=cAnd (Jo Yt (aRo (cVar 4) (aRo (cK (.int 2)) aNil))) (Jo Ub (aRo (cIdx (cVar 4) (cK (.int 1))) aNil))) (env:=E none) (y:=fun d=>.bl (rw1 d)) (ds:=ds) fun d hm=>by
  have px:=hx d hm
  have v2:=JcX px 2
  have ln:=(Yw px).2
  refine⟨[some dn,some dj,some (.int t),some Pd,some d,none,none,none,none],rfl,rfl,?_,rfl⟩
  have v2':Yt [d,.int 2]=.ok (.bl (isR 2 d)) []:=v2
  cases hr:isR 2 d with
  | false =>
   have e:rw1 d=false:=by
    unfold rw1
    split
    ·rename_i a b;simp[isR]at hr
    ·rfl
   rw[hr]at v2'
   rw[e]
   simp[ln,v2']
  | true =>
   obtain⟨a,b,rfl,pa,pb⟩:=Jeq px hr
   have v3:=JbU pb
   have lb:=(Yw pb).2
   have ib:=(Yw pb).1
   have ia:=(Yw pa).1
   have e:rw1 (.tup [a,b])=isW b:=rfl
   have a1:ixD (.tup [a,b]) (.int 1)=some b:=rfl
   rw[hr]at v2'
   rw[e]
   generalize D.tup [a,b]=Q at *
   simp[ln,a1,v2',lb,v3]
 have em1:(ds.map fun d=>D.bl (rw1 d))=(ds.map rw1).map D.bl:=by rw[List.map_map];rfl
 rw[em1]at l1
 have al1:pAll [.lst .m ((ds.map rw1).map D.bl)]=some (.bl (ds.all rw1)):=by rw[Jbc,List.all_map];rfl
 have t1:cLc (JB (JG (cVar 3))) [4] (gSet 4) cYes (cAnd (Jo Yt (aRo (cVar 4) (aRo (cK (.int 2)) aNil))) (Jo Ub (aRo (cIdx (cVar 4) (cK (.int 1))) aNil))) (E none)=.ok (.lst .m ((ds.map rw1).map D.bl)) (E none):=by
  rw[e_lc,srcR]
  have w:Ur (E none) [4]=E none:=rfl
  have cl:ZX (E none) [4]=true:=rfl
  have bk:Qb (E none) (E none) [4]=E none:=rfl
  simp only[VS.R.bind,cl,hzz,and_self,if_true,w,l1,bk]
 have v0:=vlE none
 rw[hL]at v0
 cases hr1:ds.all rw1 with
 | false =>
  have e:RB ns js t ds=false:=by
   unfold RB
   cases q:Jbd ds with
   | none=>rfl
   | some rs=>rw[Jcd q,rw1_nr]at hr1;cases hr1
  rw[e]
  rw[hr1]at al1
  refine JN (env0:=E none) (env:=E none) ⟨rfl,by decide⟩ rfl ?_ rfl
  unfold ZK
  refine JY (Jcb (env1:=E none) ?_ rfl)
  simp[-e_lc,-JbW,-JgU,-JeS,-List.map_map,t1,al1,v0]
 | true =>
 rw[hr1]at al1
 have two:∀d∈ds,∃a b,d=.tup [a,b]∧pln 58 a=true∧pln 58 b=true:=fun d hm=>by
  refine Jeq (hx d hm) ?_
  have:=List.all_eq_true.mp hr1 d hm
  unfold rw1 at this
  split at this
  ·rfl
  ·cases this
 have l2:=Jbq (vs:=[4]) (g:=gSet 4) (ce:=cImm (cIdx (cVar 4) (cK (.int 0)))) (env:=E none) (y:=fst0) (ds:=ds) fun d hm=>by
  obtain⟨a,b,rfl,pa,pb⟩:=two d hm
  refine⟨[some dn,some dj,some (.int t),some Pd,some (.tup [a,b]),none,none,none,none],rfl,rfl,?_,rfl⟩
  have a0:ixD (.tup [a,b]) (.int 0)=some a:=rfl
  have ia:=(Yw pa).1
  have ef:fst0 (.tup [a,b])=a:=rfl
  rw[ef]
  generalize D.tup [a,b]=Q at *
  simp[a0,ia]
 have t2:cLc (JB (JG (cVar 3))) [4] (gSet 4) cYes (cImm (cIdx (cVar 4) (cK (.int 0)))) (E none)=.ok (.lst .m (ds.map fst0)) (E none):=by
  rw[e_lc,srcR]
  have w:Ur (E none) [4]=E none:=rfl
  have cl:ZX (E none) [4]=true:=rfl
  have bk:Qb (E none) (E none) [4]=E none:=rfl
  simp only[VS.R.bind,cl,hzz,and_self,if_true,w,l2,bk]
 have pf:∀d∈ds.map fst0,pln 58 d=true:=fun d hm=>by
  obtain⟨x,hx',rfl⟩:=List.mem_map.mp hm
  obtain⟨a,b,rfl,pa,_⟩:=two x hx'
  exact pa
 have lf:lends (ds.map fst0)=ds.map fst0:=JbY fun d hm=>(Yw (pf d hm)).2
 have iff':imms (ds.map fst0)=true:=Zh fun d hm=>(Yw (pf d hm)).1
 have pF:pln 59 (.lst .l (ds.map fst0))=true:=pln_map pf (by rw[List.length_map];omega)
 have so:=Jey hn pF (fun xs e=>by cases e;rw[List.length_map];omega)
 have so':∃b,Yx [dn,.lst .l (ds.map fst0)]=.ok (.bl b) []∧(b=true→∃l:List Str,ds.map fst0=l.map D.str∧l.Nodup∧∀s∈l,s∈ns)∧∀l:List Str,ds.map fst0=l.map D.str→l.Nodup→(∀s∈l,s∈ns)→b=true:=by
  have inj:∀{l l':List Str},l.map D.str=l'.map D.str→l=l':=fun h=>(List.map_inj_right (f:=D.str) fun a b h=>by injection h).mp h
  rcases so with ⟨e,h⟩ | ⟨l',g1,_,g3,_,e⟩
  ·refine⟨false,e,(fun z=>by cases z),fun l e1 _ hl=>?_⟩
   rcases h with h | ⟨xs,e2,_,h⟩
   ·cases h
   ·cases e2
    rw[e1,Jgb hl]at h;cases h
  ·have e2:ds.map fst0=l'.map D.str:=by have:=g1.seq;injection this
   refine⟨decide l'.Nodup,e,fun z=>⟨l',e2,of_decide_eq_true z,g3⟩,fun l e3 nd _=>decide_eq_true ?_⟩
   have:l=l':=inj (e3.symm.trans e2)
   rw[←this];exact nd
 obtain⟨b,so1,so2,so3⟩:=so'
 have hLn:=hn.len
 have tst1:(tcOr (Yq (cTt (Jo UX (aRo (JG (cVar 3)) aNil)))) (Yq (cTt (cL pAll (Jb (cLc (JB (JG (cVar 3))) [4] (gSet 4) cYes (cAnd (Jo Yt (aRo (cVar 4) (aRo (cK (.int 2)) aNil))) (Jo Ub (aRo (cIdx (cVar 4) (cK (.int 1))) aNil)))) cNil))))) (E none)=.ok false (E none):=by
  simp[-e_lc,-JbW,-JgU,-JeS,-List.map_map,t1,al1,v0]
 have e1:(Jo Yx (aRo (cVar 0) (aRo (cLc (JB (JG (cVar 3))) [4] (gSet 4) cYes (cImm (cIdx (cVar 4) (cK (.int 0))))) aNil))) (E none)=.ok (.bl b) (E none):=by
  have g0:(E none)[0]?=some (some dn):=rfl
  simp[-e_lc,-JbW,-List.map_map,t2,g0,hnl',lf,so1]
 have e2:(c2 pNe (cL pLen (Jb (JG (cVar 3)) cNil)) (cL pLen (Jb (cVar 0) cNil))) (E none)=.ok (.bl (!decide (ds.length=ns.length))) (E none):=by
  have g0:(E none)[0]?=some (some dn):=rfl
  have th':=th none
  generalize JG (cVar 3)=CT at *
  generalize E none=EE at *
  by_cases q:ds.length=ns.length
  ·simp[th',lenR,g0,hLn,q]
  ·have q':¬ ((ds.length:Nat):Int)=(ns.length:Nat):=by omega
   simp[th',lenR,g0,hLn,q,q']
 have tst2:(tcOr (Yq (cTt (Jo Yx (aRo (cVar 0) (aRo (cLc (JB (JG (cVar 3))) [4] (gSet 4) cYes (cImm (cIdx (cVar 4) (cK (.int 0))))) aNil))))) (cTt (c2 pNe (cL pLen (Jb (JG (cVar 3)) cNil)) (cL pLen (Jb (cVar 0) cNil))))) (E none)=.ok (!(b && decide (ds.length=ns.length))) (E none):=by
  cases b<;>simp[-e_lc,-JbW,-JeS,-e_2,e1,e2]
 cases hb:(b && decide (ds.length=ns.length)) with
 | false =>
  have e:RB ns js t ds=false:=by
   unfold RB
   cases q:Jbd ds with
   | none=>rfl
   | some rs =>
    have eds:=Jcd q
    show (cdN ns rs && outN js t (vlN rs))=false
    cases c:cdN ns rs with
    | false=>rfl
    | true =>
     obtain⟨c1,c2',c3⟩:=of_decide_eq_true c
     have ef:ds.map fst0=(rs.map (·.1)).map D.str:=by rw[eds,List.map_map,List.map_map];rfl
     rw[so3 _ ef c1 c2']at hb
     rw[eds,List.length_map,decide_eq_true c3]at hb
     cases hb
  rw[e]
  rw[hb]at tst2
  refine JN (env0:=E none) (env:=E none) ⟨rfl,by decide⟩ rfl ?_ rfl
  unfold ZK
  exact Jk (env1:=E none) (Jcp tst1 rfl) (JY (Jcb (env1:=E none) tst2 rfl))
 | true =>
 rw[hb]at tst2
 rw[Bool.and_eq_true,decide_eq_true_eq]at hb
 obtain⟨l,f1,f2,f3⟩:=so2 hb.1
 obtain⟨rs,eds,rfl⟩:=Jc8 hr1 f1
 have hcd:cdN ns rs=true:=decide_eq_true ⟨f2,f3,by have:=hb.2;rwa[eds,List.length_map]at this⟩
 have e:RB ns js t ds=outN js t (vlN rs):=by
  unfold RB
  rw[eds,Jcc]
  show (cdN ns rs && outN js t (vlN rs))=_
  rw[hcd];rfl
 rw[e]
 have dn':=dict_nr f2 (Jfi f2) .l
 have hdc':=hdc rs hL (by rw[sq,eds])
 rw[dn']at hdc'
 have inr:=(Jd9 hcd).2
 have l3:=Jbx (f:=jt) (vs:=[6,7,8]) (g:=JI 3 (Je (gSet 6) (Je (gSet 7) (Je (gSet 8) JL)))) (ce:=c2 pEq (Jo Zs (aRo (cVar 2) (aRo (c2 pSub (c2 pSub (cIdx (cVar 5) (cVar 7)) (cIdx (cVar 5) (cVar 6))) (cVar 8)) aNil))) (cK (.int 0))) (env:=E (some (dN .m (rs.map (·.1)) (vlN rs)))) (y:=fun j=>.bl (decide (cnt t (vlN rs j.2.1 - vlN rs j.1 - j.2.2)=0))) (xs:=js) fun j hj=>by
  have x1:=Jel (o:=vlN rs) (inr _ (hone j hj))
  have x2:=Jel (o:=vlN rs) (inr _ (hoth j hj))
  have vc:=JiB h0 h1 (vlN rs j.2.1 - vlN rs j.1 - j.2.2)
  refine⟨[some dn,some dj,some (.int t),some Pd,none,some (dN .m (rs.map (·.1)) (vlN rs)),some (.str j.1),some (.str j.2.1),some (.int j.2.2)],rfl,rfl,?_,rfl⟩
  generalize dN .m (rs.map (·.1)) (vlN rs)=DD at *
  by_cases q:cnt t (vlN rs j.2.1 - vlN rs j.1 - j.2.2)=0
  ·rw[q]at vc
   simp[x1,x2,vc,q]
  ·simp[x1,x2,vc,q]
 have em3:(js.map fun j=>D.bl (decide (cnt t (vlN rs j.2.1 - vlN rs j.1 - j.2.2)=0)))=(js.map fun j=>decide (cnt t (vlN rs j.2.1 - vlN rs j.1 - j.2.2)=0)).map D.bl:=by rw[List.map_map];rfl
 rw[em3]at l3
 have al3:pAll [.lst .m ((js.map fun j=>decide (cnt t (vlN rs j.2.1 - vlN rs j.1 - j.2.2)=0)).map D.bl)]=some (.bl (outN js t (vlN rs))):=by rw[Jbc,List.all_map];rfl
 have hzj:(js.map jt).length≤sizeLine:=by rw[List.length_map];exact Yh (by omega)
 have t3:cLc (JB (cVar 1)) [6,7,8] (JI 3 (Je (gSet 6) (Je (gSet 7) (Je (gSet 8) JL)))) cYes (c2 pEq (Jo Zs (aRo (cVar 2) (aRo (c2 pSub (c2 pSub (cIdx (cVar 5) (cVar 7)) (cIdx (cVar 5) (cVar 6))) (cVar 8)) aNil))) (cK (.int 0))) (E (some (dN .m (rs.map (·.1)) (vlN rs))))=.ok (.lst .m ((js.map fun j=>decide (cnt t (vlN rs j.2.1 - vlN rs j.1 - j.2.2)=0)).map D.bl)) (E (some (dN .m (rs.map (·.1)) (vlN rs)))):=by
  have src:JB (cVar 1) (E (some (dN .m (rs.map (·.1)) (vlN rs))))=.ok (js.map jt) (E (some (dN .m (rs.map (·.1)) (vlN rs)))):=hdj.srcJ 1 rfl
  rw[e_lc,src]
  have w:Ur (E (some (dN .m (rs.map (·.1)) (vlN rs)))) [6,7,8]=E (some (dN .m (rs.map (·.1)) (vlN rs))):=rfl
  have cl:ZX (E (some (dN .m (rs.map (·.1)) (vlN rs)))) [6,7,8]=true:=rfl
  have bk:Qb (E (some (dN .m (rs.map (·.1)) (vlN rs)))) (E (some (dN .m (rs.map (·.1)) (vlN rs)))) [6,7,8]=E (some (dN .m (rs.map (·.1)) (vlN rs))):=rfl
  simp only[VS.R.bind,cl,hzj,and_self,if_true,w,l3,bk]
 refine JN (env0:=E none) (env:=E (some (dN .m (rs.map (·.1)) (vlN rs)))) ⟨rfl,by decide⟩ rfl ?_ rfl
 unfold ZK
 refine Jk (env1:=E none) (Jcp tst1 rfl) (Jk (env1:=E none) (Jcp tst2 rfl) (Jk (env1:=E (some (dN .m (rs.map (·.1)) (vlN rs)))) ?_ ?_))
 ·have g3:(E none)[3]?=some (some Pd):=rfl
  have g5:(E none).set 5 (some (dN .m (rs.map (·.1)) (vlN rs)))=E (some (dN .m (rs.map (·.1)) (vlN rs))):=rfl
  generalize dN .m (rs.map (·.1)) (vlN rs)=DD at *
  generalize hE0:E none=E0 at *
  generalize hE1:E (some DD)=E1 at *
  simp[g3,hdc',g5]
 ·simp[-e_lc,-JbW,-List.map_map,t3,al3]
end
end VS
namespace VS
open PySem L2 SeqAt
theorem st_dN2 {td:List Str} {o:Str→Int} {a:Str} (nd:td.Nodup) (hl:td.length < 100000) (x:Int):stD (dN .m td o) (.str a) (.int x)=some (dN .m (if a∈td then td else td++[a]) (upI o a x)):=by
 have e:(fun m=>D.int (upI o a x m))=up1 (fun m=>D.int (o m)) a (.int x):=by
  funext m;unfold up1 upI;split<;>rfl
 by_cases h:a∈td
 ·show ((D.str a).key.bind fun k=>if (td.map (Sum.inr:Str→Key)).length < sizeLine then some (putD (td.map Sum.inr) (td.map fun m=>D.int (o m)) k (.int x)) else none)=_
  rw[show (D.str a).key=some (Sum.inr a) from rfl,Option.bind_some,if_pos (by rw[List.length_map];exact QS (by omega))]
  unfold putD
  rw[Jff Sum.inr Jdn,if_pos h,if_pos h]
  simp only
  rw[JfV td (fun m=>D.int (o m)) a (.int x) nd h,←e];rfl
 ·rw[if_neg h];exact Jgs h (QS (by omega)) x
theorem JfG {t a b s:Int} (h0:0≤t):cnt t (a+s - b)=0↔cnt t (b - a - s)=0:=by
 unfold cnt
 split
 ·omega
 ·have e:a+s - b=-(b - a - s):=by omega
  rw[e]
  constructor
  ·intro h
   exact Int.emod_eq_zero_of_dvd (Int.dvd_neg.mp (Int.dvd_of_emod_eq_zero h))
  ·intro h
   exact Int.emod_eq_zero_of_dvd (Int.dvd_neg.mpr (Int.dvd_of_emod_eq_zero h))
theorem rowsD_none {ds:List D} {d:D} (hm:d∈ds) (h:toNr d=none):Jbd ds=none:=by
 cases q:Jbd ds with
 | none=>rfl
 | some rs =>
  have e:=Jcd q
  rw[e]at hm
  obtain⟨p,_,rfl⟩:=List.mem_map.mp hm
  rw[JgZ]at h;cases h
theorem sort_dN (td:List Str) (o:Str→Int) (hl:td.length≤1000):YE [dN .m td o]=some (.lst .m ((YW td).map D.str)):=by
 have e:YE [dN .m td o]=YE [.lst .m (td.map D.str)]:=by
  unfold dN YE
  simp only[Jgo]
  congr 2
  rw[List.map_map];rfl
 rw[e];exact JaA hl
theorem ne_ss (g g':Fl) (a b:List Str):pNe (.lst g (a.map D.str)) (.lst g' (b.map D.str))=some (.bl (!decide (a=b))):=by
 have e:eqOk 40 (.lst g (a.map D.str))=true:=by unfold eqOk;exact Uq 39 a
 have e':eqOk 40 (.lst g' (b.map D.str))=true:=by unfold eqOk;exact Uq 39 b
 have p:pyEq (.lst g (a.map D.str)) (.lst g' (b.map D.str))=decide (a=b):=by unfold pyEq;exact JbS a b
 unfold pNe;rw[e,e',p];rfl
def ED7 (dn dj:D) (t:Int) (R:D) (o4 o5:Option D):Env:=[some dn,some dj,some (.int t),some R,o4,o5,none,none,none]
section
variable {ns:List Str} {js:List Jn} {t:Int} {dn dj:D}
theorem JcD {n:Nat} {d:D} (h:pln n d=true):Yl [d]=.ok (.bl (isW d)) []:=by
 have:=Jfo h
 unfold Yl JO JbM
 simp[-JgU,-JiC,YF,UZ,Yf,this]
theorem due_bad {R d:D} (h:pln 59 d=true) (hb:toNr d=none) (o4:Option D):YZ (ED7 dn dj t R o4 (some d))=.rt (.bl false) (ED7 dn dj t R o4 (some d)):=by
 have p1:=pi_tup h
 have ln:=(Yw h).2
 unfold YZ
 refine JY (Jcb (env1:=ED7 dn dj t R o4 (some d)) ?_ rfl)
 cases hT:isT d with
 | false =>
  rw[hT]at p1
  unfold ED7;simp[p1]
 | true =>
  rw[hT]at p1
  cases d<;>simp[isT]at hT
  rename_i ds
  obtain⟨hz,hx⟩:=JaF h
  have hzz:ds.length≤sizeLine:=Yh (by omega)
  by_cases h2:ds.length=2
  ·match ds,h2 with
   | [a,b],_ =>
    have pa:=hx a (by simp)
    have pb:=hx b (by simp)
    have sa:=Jgk pa
    have vb:=JcD pb
    have lb:=(Yw pb).2
    have a0:ixD (.tup [a,b]) (.int 0)=some a:=rfl
    have a1:ixD (.tup [a,b]) (.int 1)=some b:=rfl
    have len:pLen [D.tup [a,b]]=some (.int 2):=rfl
    have e2:pNe (.int 2) (.int 2)=some (.bl false):=rfl
    have hw:isS a=true→isW b=false:=fun hs=>by
     cases a<;>simp[isS]at hs
     cases b<;>first | rfl | (simp[toNr]at hb)
    generalize D.tup [a,b]=Q at *
    unfold ED7
    cases hs:isS a with
    | false =>
     rw[hs]at sa
     simp[p1,len,a0,sa]
    | true =>
     rw[hs]at sa
     rw[hw hs]at vb
     simp[p1,len,a0,sa,a1,lb,vb]
  ·have e2:¬ ((ds.length:Nat):Int)=2:=by omega
   unfold ED7;simp[p1,hzz,e2]
theorem due_good {R:D} (p:Str × Int) {td:List Str} {o:Str→Int} (nd:td.Nodup) (hl:td.length < 100000):YZ (ED7 dn dj t R (some (dN .m td o)) (some (nr p)))=.nx (ED7 dn dj t R (some (dN .m (if p.1∈td then td else td++[p.1]) (upI o p.1 p.2))) (some (nr p))):=by
 have s1:=st_dN2 (o:=o) (a:=p.1) nd hl p.2
 have p1:pIsi [nr p,.ty "tuple"]=some (.bl true):=rfl
 have a0:ixD (nr p) (.int 0)=some (.str p.1):=rfl
 have a1:ixD (nr p) (.int 1)=some (.int p.2):=rfl
 have len:pLen [nr p]=some (.int 2):=rfl
 have sa:pIsi [.str p.1,.ty "str"]=some (.bl true):=rfl
 have vb:=JcD (n:=1) (d:=.int p.2) rfl
 have ew:isW (.int p.2)=true:=rfl
 rw[ew]at vb
 unfold YZ
 generalize nr p=Q at *
 generalize dN .m (if p.1∈td then td else td++[p.1]) (upI o p.1 p.2)=D2 at *
 generalize dN .m td o=D1 at *
 refine Jk (env1:=ED7 dn dj t R (some D1) (some Q)) (Jcp (env1:=ED7 dn dj t R (some D1) (some Q)) ?_ rfl) ?_
 ·unfold ED7;simp[p1,len,a0,sa,a1,vb]
 ·unfold ED7;simp[a0,a1,lVar,s1]
theorem v_due_any (hn:HSt ns dn) (hnd:ns.Nodup) (hdj:Hold jt js dj) (hnl:ns.length≤900) (hjl:js.length≤1000) (h0:0≤t) (h1:t≤1000) (hone:∀j∈js,j.1∈ns) (hoth:∀j∈js,j.2.1∈ns) {R:D} (hp:pln 60 R=true) (hsz:∀ds,Zm R=some ds→ds.length≤900) :
  UE [dn,dj,.int t,R]=.ok (.bl (RBs ns js t R)) []:=by
 have iR:=(Yw hp).1
 have pl:=JhF hp
 cases hL:isL R with
 | false =>
  have e:RBs ns js t R=false:=by unfold RBs;rw[hL];rfl
  rw[e]
  rw[hL]at pl
  refine JN (env0:=ED7 dn dj t R none none) (env:=ED7 dn dj t R none none) ⟨rfl,by decide⟩ rfl ?_ rfl
  unfold Zd
  refine JY (Jcb (env1:=ED7 dn dj t R none none) ?_ rfl)
  unfold ED7;simp[pl]
 | true =>
 rw[hL]at pl
 obtain⟨ds,sq,hd,hx,hz,src⟩:=JbZ hp hL
 have hz9:=hsz ds sq
 have hzz:ds.length≤sizeLine:=Yh (by omega)
 have eRB:RBs ns js t R=RB ns js t ds:=by unfold RBs;rw[hL,sq];rfl
 rw[eRB]
 have lenR:pLen [R]=some (.int (ds.length:Nat)):=by
  rcases hd with rfl | rfl<;>simp[pLen,hzz]
 have s0:(sIf (Yq (cTt (cL pIsi (Jb (cVar 3) (Jb (cTup (Jb (cK (.ty "list")) (Jb (cK (.ty "tuple")) cNil))) cNil))))) (sRet (cK (.bl false))) sNil) (ED7 dn dj t R none none)=.nx (ED7 dn dj t R none none):=by
  refine Jcp (env1:=ED7 dn dj t R none none) ?_ rfl
  unfold ED7;simp[pl]
 have s1:(sAsg (cK (.dct .m [] [])) (gSet 4)) (ED7 dn dj t R none none)=.nx (ED7 dn dj t R (some (dN .m [] fun _=>0)) none):=rfl
 have hloop:=JeY (f:=fun d:D=>d) (g:=gSet 5) (body:=YZ)
  (fun rest env=>∃(td:List Str) (o:Str→Int) (o5:Option D) (rd:List (Str × Int)),env=ED7 dn dj t R (some (dN .m td o)) o5∧rd.map nr++rest=ds∧td.Nodup∧(∀m,m∈td↔m∈rd.map (·.1))∧td.length≤rd.length∧((rd.map (·.1)).Nodup→∀p∈rd,o p.1=p.2))
  (fun r env=>r=.bl false∧(∃o4 o5,env=ED7 dn dj t R o4 o5)∧Jbd ds=none)
  (fun d rest env ⟨td,o,o5,rd,e,hds,nd,hm,hln,ho⟩=>by
   have hmd:d∈ds:=by rw[←hds];simp
   have px:=hx d hmd
   refine⟨ED7 dn dj t R (some (dN .m td o)) (some d),by rw[e];rfl,?_⟩
   cases hq:toNr d with
   | none=>exact .inr ⟨.bl false,_,due_bad px hq _,rfl,⟨_,_,rfl⟩,rowsD_none hmd hq⟩
   | some p =>
    have ed:=JgB hq
    subst ed
    have hrl:rd.length≤900:=by have:=congrArg List.length hds;simp at this;omega
    refine .inl ⟨_,due_good p nd (by omega),_,_,_,rd++[p],rfl,by rw[List.map_append,List.append_assoc];exact hds,?_,fun m=>?_,?_,fun hnd2 q hq2=>?_⟩
    ·by_cases h:p.1∈td
     ·rw[if_pos h];exact nd
     ·rw[if_neg h,List.nodup_append]
      exact⟨nd,by simp,fun a ha b hb=>by simp at hb;subst hb;exact fun e=>h (e ▸ ha)⟩
    ·rw[List.map_append,List.mem_append,←hm m]
     by_cases h:p.1∈td
     ·rw[if_pos h]
      exact⟨.inl,fun z=>z.elim id fun z=>by simp at z;rw[z];exact h⟩
     ·rw[if_neg h,List.mem_append];simp
    ·by_cases h:p.1∈td
     ·rw[if_pos h];simp;omega
     ·rw[if_neg h];simp;omega
    ·rw[List.map_append,List.nodup_append]at hnd2
     obtain⟨n1,_,n3⟩:=hnd2
     unfold upI
     rcases List.mem_append.mp hq2 with z | z
     ·have ne:¬ q.1=p.1:=n3 q.1 (List.mem_map.mpr ⟨q,z,rfl⟩) p.1 (by simp)
      rw[if_neg ne];exact ho n1 q z
     ·have:q=p:=by simpa using z
      subst this;rw[if_pos rfl])
  ds (ED7 dn dj t R (some (dN .m [] fun _=>0)) none) ⟨[],fun _=>0,none,[],rfl,rfl,List.nodup_nil,(fun m=>by simp),Nat.le_refl _,fun _ p hp=>nomatch hp⟩
 rw[show ds.map (fun d:D=>d)=ds from List.map_id' ds]at hloop
 have sc:=src (ED7 dn dj t R (some (dN .m [] fun _=>0)) none) 3 rfl
 rcases hloop with ⟨env',f1,td,o,o5,rd,rfl,hds,nd,hm,hln,ho⟩ | ⟨r,env',f1,rfl,⟨o4,o5,rfl⟩,hno⟩
 case inr =>
  have e:RB ns js t ds=false:=by unfold RB;rw[hno]
  rw[e]
  refine JN (env0:=ED7 dn dj t R none none) (env:=ED7 dn dj t R o4 o5) ⟨rfl,by decide⟩ rfl ?_ rfl
  unfold Zd
  refine Jk s0 (Jk s1 (JY ?_))
  rw[JbO,sc];exact f1
 rw[List.append_nil]at hds
 have er:Jbd ds=some rd:=by rw[←hds];exact Jcc rd
 have hrl:rd.length=ds.length:=by rw[←hds,List.length_map]
 have e:RB ns js t ds=(cdN ns rd && outN js t (vlN rd)):=by unfold RB;rw[er]
 rw[e]
 have st1:=sort_dN td o (by omega)
 have st2:YE [dn]=some (.lst .m ((YW ns).map D.str)):=by
  cases hn
  ·exact JaA (by omega)
  ·exact JaA (by omega)
  ·exact sortG_tups (by omega)
 have hne:=ne_ss .m .m (YW td) (YW ns)
 have hLn:=hn.len
 have tst:(tcOr (cTt (c2 pNe (cL YE (Jb (cVar 4) cNil)) (cL YE (Jb (cVar 0) cNil)))) (cTt (c2 pNe (cL pLen (Jb (cVar 3) cNil)) (cL pLen (Jb (cVar 0) cNil))))) (ED7 dn dj t R (some (dN .m td o)) o5)=.ok (!(decide (YW td=YW ns) && decide (ds.length=ns.length))) (ED7 dn dj t R (some (dN .m td o)) o5):=by
  generalize dN .m td o=D1 at *
  unfold ED7
  by_cases q1:YW td=YW ns
  ·rw[decide_eq_true q1]at hne ⊢
   by_cases q2:ds.length=ns.length
   ·simp[st1,st2,hne,lenR,hLn,q2]
   ·have q2':¬ ((ds.length:Nat):Int)=(ns.length:Nat):=by omega
    simp[st1,st2,hne,lenR,hLn,q2,q2']
  ·rw[decide_eq_false q1]at hne ⊢
   simp[st1,st2,hne]
 have hkey:(decide (YW td=YW ns) && decide (ds.length=ns.length))=cdN ns rd:=by
  rw[Bool.eq_iff_iff,Bool.and_eq_true,decide_eq_true_eq,decide_eq_true_eq]
  constructor
  ·rintro ⟨q1,q2⟩
   have pm:td.Perm ns:=(Uh td).symm.trans (q1 ▸ Uh ns)
   have l1:=pm.length_eq
   refine decide_eq_true ⟨?_,fun s hs=>pm.mem_iff.mp ((hm s).mpr hs),by omega⟩
   refine (Jde (rd.map (·.1))).mp ?_
   rw[←Ja2 nd (QG _) fun x=>by rw[QY];exact hm x,List.length_map];omega
  ·intro c
   obtain⟨c1,c2',c3⟩:=of_decide_eq_true c
   refine⟨sortS_eq ((List.perm_ext_iff_of_nodup nd hnd).mpr fun x=>?_),by omega⟩
   rw[hm x]
   exact⟨c2' x,(Jd9 c).2 x⟩
 rw[hkey]at tst
 cases hc:cdN ns rd with
 | false =>
  rw[hc]at tst
  refine JN (env0:=ED7 dn dj t R none none) (env:=ED7 dn dj t R (some (dN .m td o)) o5) ⟨rfl,by decide⟩ rfl ?_ rfl
  unfold Zd
  refine Jk s0 (Jk s1 (Jk (env1:=ED7 dn dj t R (some (dN .m td o)) o5) ?_ (JY (Jcb tst rfl))))
  rw[JbO,sc];exact f1
 | true =>
 rw[hc]at tst
 obtain⟨c1,c2'⟩:=Jd9 hc
 have hov:∀m∈ns,m∈td∧o m=vlN rd m:=fun m hmn=>by
  have h1:=c2' m hmn
  obtain⟨p,hp,rfl⟩:=List.mem_map.mp h1
  exact⟨(hm _).mpr h1,by rw[ho c1 p hp];exact Jfi c1 p hp⟩
 have l3:=Jbx (f:=jt) (vs:=[6,7,8]) (g:=JI 3 (Je (gSet 6) (Je (gSet 7) (Je (gSet 8) JL)))) (ce:=c2 pEq (Jo Ya (aRo (cVar 2) (aRo (c2 pSub (c2 pAdd (cIdx (cVar 4) (cVar 6)) (cVar 8)) (cIdx (cVar 4) (cVar 7))) aNil))) (cK (.int 0))) (env:=ED7 dn dj t R (some (dN .m td o)) o5) (y:=fun j=>.bl (decide (cnt t (vlN rd j.2.1 - vlN rd j.1 - j.2.2)=0))) (xs:=js) fun j hj=>by
  obtain⟨m1,v1⟩:=hov _ (hone j hj)
  obtain⟨m2,v2⟩:=hov _ (hoth j hj)
  have x1:=Jel (o:=o) m1
  have x2:=Jel (o:=o) m2
  rw[v1]at x1
  rw[v2]at x2
  have vc:=Jgj h0 h1 (vlN rd j.1+j.2.2 - vlN rd j.2.1)
  have fl:=JfG (a:=vlN rd j.1) (b:=vlN rd j.2.1) (s:=j.2.2) h0
  refine⟨[some dn,some dj,some (.int t),some R,some (dN .m td o),o5,some (.str j.1),some (.str j.2.1),some (.int j.2.2)],rfl,rfl,?_,rfl⟩
  generalize dN .m td o=DD at *
  by_cases q:cnt t (vlN rd j.2.1 - vlN rd j.1 - j.2.2)=0
  ·rw[fl.mpr q]at vc
   simp[x1,x2,vc,q]
  ·have q':=fun z=>q (fl.mp z)
   simp[x1,x2,vc,q]
   exact q'
 have em3:(js.map fun j=>D.bl (decide (cnt t (vlN rd j.2.1 - vlN rd j.1 - j.2.2)=0)))=(js.map fun j=>decide (cnt t (vlN rd j.2.1 - vlN rd j.1 - j.2.2)=0)).map D.bl:=by rw[List.map_map];rfl
 rw[em3]at l3
 have al3:pAll [.lst .m ((js.map fun j=>decide (cnt t (vlN rd j.2.1 - vlN rd j.1 - j.2.2)=0)).map D.bl)]=some (.bl (outN js t (vlN rd))):=by rw[Jbc,List.all_map];rfl
 have hzj:(js.map jt).length≤sizeLine:=by rw[List.length_map];exact Yh (by omega)
 have t3:cLc (JB (cVar 1)) [6,7,8] (JI 3 (Je (gSet 6) (Je (gSet 7) (Je (gSet 8) JL)))) cYes (c2 pEq (Jo Ya (aRo (cVar 2) (aRo (c2 pSub (c2 pAdd (cIdx (cVar 4) (cVar 6)) (cVar 8)) (cIdx (cVar 4) (cVar 7))) aNil))) (cK (.int 0))) (ED7 dn dj t R (some (dN .m td o)) o5)=.ok (.lst .m ((js.map fun j=>decide (cnt t (vlN rd j.2.1 - vlN rd j.1 - j.2.2)=0)).map D.bl)) (ED7 dn dj t R (some (dN .m td o)) o5):=by
  have src2:JB (cVar 1) (ED7 dn dj t R (some (dN .m td o)) o5)=.ok (js.map jt) (ED7 dn dj t R (some (dN .m td o)) o5):=hdj.srcJ 1 rfl
  rw[e_lc,src2]
  have w:Ur (ED7 dn dj t R (some (dN .m td o)) o5) [6,7,8]=ED7 dn dj t R (some (dN .m td o)) o5:=rfl
  have cl:ZX (ED7 dn dj t R (some (dN .m td o)) o5) [6,7,8]=true:=rfl
  have bk:Qb (ED7 dn dj t R (some (dN .m td o)) o5) (ED7 dn dj t R (some (dN .m td o)) o5) [6,7,8]=ED7 dn dj t R (some (dN .m td o)) o5:=rfl
  simp only[VS.R.bind,cl,hzj,and_self,if_true,w,l3,bk]
 refine JN (env0:=ED7 dn dj t R none none) (env:=ED7 dn dj t R (some (dN .m td o)) o5) ⟨rfl,by decide⟩ rfl ?_ rfl
 unfold Zd
 refine Jk s0 (Jk s1 (Jk (env1:=ED7 dn dj t R (some (dN .m td o)) o5) ?_ (Jk (env1:=ED7 dn dj t R (some (dN .m td o)) o5) (Jcp tst rfl) ?_)))
 ·rw[JbO,sc];exact f1
 ·simp[-e_lc,-JbW,-List.map_map,t3,al3]
end
end VS
namespace VS
open PySem L2 SeqAt
section
variable {js:List Jn} {ns:List Str} {a b:Str} {dn dj d:D} {t:Int} {n:Nat} {w:List (Int × Int)}
theorem nin_pm70 (i:Int):Uu (.int i) (.tup [.int 1,.int (-1)])=some (.bl (!(decide (i=1) || decide (i=-1)))):=by
 show (if eqOk 40 (.int i) && eqOks 40 [.int 1,.int (-1)] then some ([D.int 1,.int (-1)].any fun d=>pyEq d (.int i)) else none).map (fun b=>D.bl (!b))=_
 have e:([D.int 1,.int (-1)].any fun d=>pyEq d (.int i))=(decide (i=1) || decide (i=-1)):=by
  have e1:pyEq (.int 1) (.int i)=decide (i=1):=by
   show ((1:Int) == i)=_
   rw[Bool.eq_iff_iff,beq_iff_eq,decide_eq_true_eq];exact eq_comm
  have e2:pyEq (.int (-1)) (.int i)=decide (i=-1):=by
   show ((-1:Int) == i)=_
   rw[Bool.eq_iff_iff,beq_iff_eq,decide_eq_true_eq];exact eq_comm
  simp only[List.any_cons,List.any_nil,e1,e2,Bool.or_false]
 rw[e];rfl
def WK7 (dj:D) (a:Str) (d:D) (o3:Option D):Env:=[some dj,some (.str a),some d,o3,none]
theorem wk_step {x:D} (h:pln n x=true):UD (WK7 dj a d (some x))=if isPr x then .nx (WK7 dj a d (some x)) else .rt .non (WK7 dj a d (some x)):=by
 have p1:=pi_tup h
 have bad1:∀X:CS,(tcOr (Yq (cTt (cL pIsi (Jb (cVar 3) (Jb (cK (.ty "tuple")) cNil))))) (tcOr (cTt (c2 pNe (cL pLen (Jb (cVar 3) cNil)) (cK (.int 2)))) (Yq (cTt (cL pAll (Jb (cLc (JB (cVar 3)) [4] (gSet 4) cYes (Jo Yl (aRo (cVar 4) aNil))) cNil)))))) (WK7 dj a d (some x))=.ok true (WK7 dj a d (some x))→isPr x=false→UD (WK7 dj a d (some x))=if isPr x then .nx (WK7 dj a d (some x)) else .rt .non (WK7 dj a d (some x)):=fun _ h1 h2=>by
  rw[h2]
  unfold UD
  exact JY (if_t h1 rfl)
 cases hT:isT x with
 | false =>
  rw[hT]at p1
  refine bad1 sNil ?_ (by cases x<;>first | rfl | (simp[isT]at hT))
  unfold WK7;simp[p1]
 | true =>
  rw[hT]at p1
  cases x<;>simp[isT]at hT
  rename_i ds
  obtain⟨hz,hx⟩:=JaF h
  have hzz:ds.length≤sizeLine:=Yh (by omega)
  by_cases h2:ds.length=2
  ·match ds,h2 with
   | [u,v],_ =>
    have pu:=hx u (by simp)
    have pv:=hx v (by simp)
    have iu:=(Yw pu).1
    have iv:=(Yw pv).1
    have lc:=Jbq (vs:=[4]) (g:=gSet 4) (ce:=Jo Yl (aRo (cVar 4) aNil)) (env:=WK7 dj a d (some (.tup [u,v]))) (y:=fun x=>.bl (isW x)) (ds:=[u,v]) fun y hy=>by
     have py:pln (n - 1) y=true:=by
      simp only[List.mem_cons,List.mem_nil_iff,or_false]at hy
      rcases hy with rfl | rfl
      ·exact pu
      ·exact pv
     have vi:=JcD py
     have ly:=(Yw py).2
     refine⟨(WK7 dj a d (some (.tup [u,v]))).set 4 (some y),rfl,rfl,?_,rfl⟩
     unfold WK7;simp[ly,vi]
    have em:([u,v].map fun x=>D.bl (isW x))=[isW u,isW v].map D.bl:=rfl
    rw[em]at lc
    have al:pAll [.lst .m ([isW u,isW v].map D.bl)]=some (.bl (isW u && isW v)):=by rw[Jbc];simp
    have src:JB (cVar 3) (WK7 dj a d (some (.tup [u,v])))=.ok [u,v] (WK7 dj a d (some (.tup [u,v]))):=by unfold WK7;simp[iu,iv]
    have lcc:cLc (JB (cVar 3)) [4] (gSet 4) cYes (Jo Yl (aRo (cVar 4) aNil)) (WK7 dj a d (some (.tup [u,v])))=.ok (.lst .m ([isW u,isW v].map D.bl)) (WK7 dj a d (some (.tup [u,v]))):=by
     rw[e_lc,src]
     have w1:Ur (WK7 dj a d (some (.tup [u,v]))) [4]=WK7 dj a d (some (.tup [u,v])):=rfl
     have cl:ZX (WK7 dj a d (some (.tup [u,v]))) [4]=true:=rfl
     have bk:Qb (WK7 dj a d (some (.tup [u,v]))) (WK7 dj a d (some (.tup [u,v]))) [4]=WK7 dj a d (some (.tup [u,v])):=rfl
     have hz2:[u,v].length≤sizeLine:=UY (by simp)
     simp only[VS.R.bind,cl,hz2,and_self,if_true,w1,lc,bk]
    have len:pLen [D.tup [u,v]]=some (.int 2):=rfl
    have tst:(tcOr (Yq (cTt (cL pIsi (Jb (cVar 3) (Jb (cK (.ty "tuple")) cNil))))) (tcOr (cTt (c2 pNe (cL pLen (Jb (cVar 3) cNil)) (cK (.int 2)))) (Yq (cTt (cL pAll (Jb (cLc (JB (cVar 3)) [4] (gSet 4) cYes (Jo Yl (aRo (cVar 4) aNil))) cNil)))))) (WK7 dj a d (some (.tup [u,v])))=.ok (!(isW u && isW v)) (WK7 dj a d (some (.tup [u,v]))):=by
     have g3:(WK7 dj a d (some (.tup [u,v])))[3]?=some (some (.tup [u,v])):=rfl
     generalize cLc (JB (cVar 3)) [4] (gSet 4) cYes (Jo Yl (aRo (cVar 4) aNil))=CC at *
     generalize WK7 dj a d (some (.tup [u,v]))=EE at *
     generalize D.tup [u,v]=Q at *
     generalize [isW u,isW v].map D.bl=BB at *
     simp[g3,p1,len,lcc,al]
    have ep:=JeZ (x:=u) (y:=v)
    by_cases hw:(isW u && isW v)=true
    ·rw[hw]at tst
     obtain⟨hu,hv⟩:=Bool.and_eq_true_iff.mp hw
     cases v<;>simp[isW]at hv
     rename_i s _
     have e2:isPr (.tup [u,.int s])=(decide (s=1) || decide (s=-1)):=by rw[ep,hu];rfl
     have a1:ixD (.tup [u,.int s]) (.int 1)=some (.int s):=rfl
     have np:=nin_pm70 s
     rw[e2]
     have t2:(cTt (c2 Uu (cIdx (cVar 3) (cK (.int 1))) (cTup (Jb (cK (.int 1)) (Jb (c1 pNeg (cK (.int 1))) cNil))))) (WK7 dj a d (some (.tup [u,.int s])))=.ok (!(decide (s=1) || decide (s=-1))) (WK7 dj a d (some (.tup [u,.int s]))):=by
      generalize D.tup [u,.int s]=Q at *
      have z2:2≤sizeLine:=UY (by decide)
      unfold WK7;simp[a1,np,z2]
     unfold UD
     refine (Jk (env1:=WK7 dj a d (some (.tup [u,.int s]))) (if_f tst rfl) rfl).trans ?_
     rw[Jca,t2]
     cases (decide (s=1) || decide (s=-1))<;>rfl
    ·have hw':(isW u && isW v)=false:=by simpa using hw
     rw[hw']at tst
     refine bad1 sNil tst ?_
     rw[ep]
     cases hu:isW u with
     | false=>rfl
     | true =>
      rw[hu]at hw'
      have:isW v=false:=by simpa using hw'
      rw[this];rfl
  ·have e2:¬ ((ds.length:Nat):Int)=2:=by omega
   refine bad1 sNil ?_ (Jg5 (by show (ds.length == 2)=false;simpa using h2))
   unfold WK7;simp[p1,hzz,e2]
theorem Jc1 {ds:List D} (hx:∀x∈ds,pln n x=true):∀(done:List D) (o3:Option D),(∃o,UH (gSet 3) UD ds (WK7 dj a d o3)=.nx (WK7 dj a d o))∧ds.all isPr=true∨(∃o,UH (gSet 3) UD ds (WK7 dj a d o3)=.rt .non (WK7 dj a d o))∧ds.all isPr=false:=by
 induction ds with
 | nil=>exact fun _ o3=>.inl ⟨⟨o3,rfl⟩,rfl⟩
 | cons x ds ih =>
  intro done o3
  have st:=wk_step (dj:=dj) (a:=a) (d:=d) (hx x (by simp))
  cases hp:isPr x with
  | false =>
   rw[hp]at st
   refine .inr ⟨⟨some x,?_⟩,by rw[List.all_cons,hp];rfl⟩
   exact Jia (env1:=WK7 dj a d (some x)) rfl st
  | true =>
   rw[hp]at st
   rcases ih (fun y hy=>hx y (by simp[hy])) done (some x) with ⟨⟨o,k1⟩,k2⟩ | ⟨⟨o,k1⟩,k2⟩
   ·exact .inl ⟨⟨o,(Ja4 (env1:=WK7 dj a d (some x)) rfl st).trans k1⟩,by rw[List.all_cons,hp,k2];rfl⟩
   ·exact .inr ⟨⟨o,(Ja4 (env1:=WK7 dj a d (some x)) rfl st).trans k1⟩,by rw[List.all_cons,hp,k2];rfl⟩
theorem Jb9 (h:pln n d=true) (hb:isWy d=false):Ux [dj,.str a,d]=.ok .non []:=by
 have p1:=pi_tup h
 cases hT:isT d with
 | false =>
  rw[hT]at p1
  refine JN (env0:=WK7 dj a d none) (env:=WK7 dj a d none) ⟨rfl,by decide⟩ rfl ?_ rfl
  unfold Jah
  refine JY (if_t (env1:=WK7 dj a d none) ?_ rfl)
  unfold WK7;simp[p1]
 | true =>
  rw[hT]at p1
  cases d<;>simp[isT]at hT
  rename_i ds
  obtain⟨hz,hx⟩:=JaF h
  have im:imms ds=true:=by have:=(Yw h).1;simpa using this
  have hb':ds.all isPr=false:=hb
  rcases Jc1 (dj:=dj) (a:=a) (d:=.tup ds) hx [] none with ⟨_,k2⟩ | ⟨⟨o,k1⟩,_⟩
  ·rw[k2]at hb';cases hb'
  ·refine JN (env0:=WK7 dj a (.tup ds) none) (env:=WK7 dj a (.tup ds) o) ⟨rfl,by decide⟩ rfl ?_ rfl
   unfold Jah
   refine Jk (env1:=WK7 dj a (.tup ds) none) (if_f (env1:=WK7 dj a (.tup ds) none) ?_ rfl) (JY ?_)
   ·unfold WK7;simp[p1]
   ·have src:JB (cVar 2) (WK7 dj a (.tup ds) none)=.ok ds (WK7 dj a (.tup ds) none):=by unfold WK7;simp[im]
    rw[JbO,src];exact k1
theorem Jdb (hd:Hold jt js dj) (hl:w.length≤1000) (hs:w.all sdB=true) :
  Ux [dj,.str a,.tup (w.map pt)]=.ok (match wk js a w with
   | some l=>.lst .m ((a::l).map D.str)
   | none=>.non) []:=by
 have vm:=v_lmet (a:=a) hd hl hs
 have hx:∀x∈w.map pt,pln 3 x=true:=fun x hx=>by
  obtain⟨p,_,rfl⟩:=List.mem_map.mp hx
  rfl
 have ap:(w.map pt).all isPr=true:=by
  rw[List.all_eq_true]
  intro x hx
  obtain⟨p,hp,rfl⟩:=List.mem_map.mp hx
  have:=List.all_eq_true.mp hs p hp
  have e:=JeZ (x:=.int p.1) (y:=.int p.2)
  show isPr (.tup [.int p.1,.int p.2])=true
  rw[e];exact this
 have im:=ZO w
 have lp:=Jad w
 have lj:=Hold.lend hd
 have nM:∀l:List Str,nols (l.map D.str)=true:=Qv
 rcases Jc1 (dj:=dj) (a:=a) (d:=.tup (w.map pt)) hx [] none with ⟨⟨o,k1⟩,_⟩ | ⟨_,k2⟩
 ·have p1:pIsi [D.tup (w.map pt),.ty "tuple"]=some (.bl true):=rfl
  refine JN (env0:=WK7 dj a (.tup (w.map pt)) none) (env:=WK7 dj a (.tup (w.map pt)) o) ⟨rfl,by decide⟩ rfl ?_ rfl
  unfold Jah
  refine Jk (env1:=WK7 dj a (.tup (w.map pt)) none) (if_f (env1:=WK7 dj a (.tup (w.map pt)) none) ?_ rfl) (Jk (env1:=WK7 dj a (.tup (w.map pt)) o) ?_ ?_)
  ·unfold WK7;simp[p1]
  ·have src:JB (cVar 2) (WK7 dj a (.tup (w.map pt)) none)=.ok (w.map pt) (WK7 dj a (.tup (w.map pt)) none):=by unfold WK7;simp[im]
   rw[JbO,src];exact k1
  ·cases e:wk js a w with
   | none =>
    rw[e]at vm
    simp only at vm ⊢
    generalize w.map pt=WW at *
    unfold WK7;simp[lj,lp,vm]
   | some l =>
    rw[e]at vm
    simp only at vm ⊢
    have nl:=nM (a::l)
    generalize w.map pt=WW at *
    generalize (a::l).map D.str=MM at *
    unfold WK7;simp[lj,lp,vm,nl]
 ·rw[ap]at k2;cases k2
end
end VS
namespace VS
open PySem L2 SeqAt
section
variable {js:List Jn} {ns:List Str} {a b:Str} {dn dj d:D} {t:Int} {n:Nat} {w:List (Int × Int)}
theorem v_lring70 (hd:Hold jt js dj) (h0:0≤t) (h1:t≤1000) (hs:w.all sdB=true) (hl:w.length≤900):Uo [dj,.int t,.str a,.tup (w.map pt)]=.ok (.bl (okRg js t a w)) []:=by
 have lj:=(Hold.lend hd)
 have lp:=Jad w
 have ip:=ZO w
 have hz:w.length≤sizeLine:=Yh (by omega)
 have hWl:(w.map pt).length=w.length:=List.length_map _
 have vm:=Jdb (a:=a) hd (w:=w) (by omega) hs
 cases e:wk js a w with
 | none =>
  have ho:okRg js t a w=false:=by unfold okRg;rw[e]
  rw[e]at vm
  simp only at vm
  rw[ho]
  refine JN (env:=[some dj,some (.int t),some (.str a),some (.tup (w.map pt)),some .non,none,none]) ⟨rfl,by decide⟩ rfl ?_ rfl
  unfold QC
  generalize w.map pt=WW at *
  refine Jk (env1:=[some dj,some (.int t),some (.str a),some (.tup WW),some .non,none,none]) (by simp[YF,lj,lp,vm]) (JY ?_)
  simp
 | some l =>
  rw[e]at vm
  simp only at vm
  have hlen:=JcL e
  have nM:nols ((a::l).map D.str)=true:=Qv _
  obtain⟨l0,c,el⟩:∃l0 c,a::l=l0++[c]:=by
   rcases List.eq_nil_or_concat (a::l) with h | ⟨l0,c,h⟩
   ·cases h
   ·exact⟨l0,c,by rw[h,List.concat_eq_append]⟩
  have q3:atI ((a::l).map D.str) (-1)=some (.str c):=by
   rw[el,List.map_append,List.map_cons,List.map_nil]
   exact ZB _ _
  have hlast:(a::l).getLast?=some c:=by rw[el];simp
  have ct':cutD ((a::l).map D.str) (some 1) none=l.map D.str:=JeC ((a::l).map D.str)
  have isM:=Zg (a::l)
  have kd:=JgL l
  have hd1:=dd_strs l
  have kl:(l.map (Sum.inr:Str→Key)).length≤4000:=by simp;omega
  have hMl:((a::l).map D.str).length=w.length+1:=by simp[hlen]
  have hMz:w.length+1≤sizeLine:=Yh (by omega)
  have lc1:=Jbx (f:=pt) (vs:=[5,6]) (g:=JI 2 (Je (gSet 5) (Je (gSet 6) JL))) (ce:=cGet 5) (env:=[some dj,some (.int t),some (.str a),some (.tup (w.map pt)),some (.lst .m ((a::l).map D.str)),none,none]) (y:=fun p=>D.int p.1) (xs:=w) (fun p _=>⟨[some dj,some (.int t),some (.str a),some (.tup (w.map pt)),some (.lst .m ((a::l).map D.str)),some (.int p.1),some (.int p.2)],rfl,rfl,by simp,rfl⟩)
  have e1:(w.map fun p=>D.int p.1)=(w.map (·.1)).map D.int:=by rw[List.map_map];rfl
  rw[e1]at lc1
  have kd2:=JeW (w.map (·.1))
  have hd2:=Jgx (w.map (·.1))
  have kl2:((w.map (·.1)).map (Sum.inl:Int→Key)).length≤4000:=by simp;omega
  have hml:(w.map (·.1)).length=w.length:=List.length_map _
  have lc2:=JeJ hd e 5 6 (JI 2 (Je (gSet 5) (Je (gSet 6) JL))) (c2 QM (cVar 6) (cIdx (cIdx (cVar 0) (cVar 5)) (cK (.int 2)))) (env:=[some dj,some (.int t),some (.str a),some (.tup (w.map pt)),some (.lst .m ((a::l).map D.str)),none,none]) (vs:=[5,6]) fun p hp j e1 hb=>by
   have g2:atI [D.str j.1,.str j.2.1,.int j.2.2] 2=some (.int j.2.2):=rfl
   exact⟨[some dj,some (.int t),some (.str a),some (.tup (w.map pt)),some (.lst .m ((a::l).map D.str)),some (.int p.1),some (.int p.2)],rfl,rfl,by simp[e1,g2,hb],rfl⟩
  have sm:=Jfv (w.map (Jam js))
  have vc:=Jgj h0 h1 (w.map (Jam js)).sum
  have ho:okRg js t a w=(!w.isEmpty && (decide (w.map (·.1)).Nodup && (decide ((a::l).getLast?=some a) && (decide l.Nodup && decide (cnt t (w.map (Jam js)).sum≠0))))):=by unfold okRg;rw[e]
  rw[ho,hlast]
  have emp:w.isEmpty=decide (w.length=0):=by cases w<;>simp
  rw[emp]
  generalize (w.map (Jam js)).sum=SS at *
  generalize (w.map (Jam js)).map D.int=YS at *
  rw[hml]at hd2
  rw[hlen]at hd1
  have fin:∀v:Bool,(sSeq (sIf (tcOr (cTt (c2 pIs (cVar 4) (cK .non))) (tcOr (cTt (c2 pLtG (cL pLen (Jb (cVar 4) cNil)) (cK (.int 2)))) (tcOr (cTt (c2 pNe (cIdx (cVar 4) (c1 pNeg (cK (.int 1)))) (cVar 2))) (cTt (c2 pNe (Zw (cSl (cVar 4) (pAt (cK (.int 1))) pNo)) (c2 pSub (cL pLen (Jb (cVar 4) cNil)) (cK (.int 1)))))))) (sRet (cK (.bl false))) sNil) (sSeq (sIf (cTt (c2 pNe (Zw (cLc (JB (cVar 3)) [5,6] (JI 2 (Je (gSet 5) (Je (gSet 6) JL))) cYes (cGet 5))) (cL pLen (Jb (cVar 3) cNil)))) (sRet (cK (.bl false))) sNil) (sRet (c2 pNe (Jo Ya (aRo (cVar 1) (aRo (cL pSum (Jb (cLc (JB (cVar 3)) [5,6] (JI 2 (Je (gSet 5) (Je (gSet 6) JL))) cYes (c2 QM (cVar 6) (cIdx (cIdx (cVar 0) (cVar 5)) (cK (.int 2))))) cNil)) aNil))) (cK (.int 0)))))) [some dj,some (.int t),some (.str a),some (.tup (w.map pt)),some (.lst .m ((a::l).map D.str)),none,none]=.rt (.bl v) [some dj,some (.int t),some (.str a),some (.tup (w.map pt)),some (.lst .m ((a::l).map D.str)),none,none]→Uo [dj,.int t,.str a,.tup (w.map pt)]=.ok (.bl v) []:=fun v h=>by
   refine JN (env0:=[some dj,some (.int t),some (.str a),some (.tup (w.map pt)),none,none,none]) (env:=[some dj,some (.int t),some (.str a),some (.tup (w.map pt)),some (.lst .m ((a::l).map D.str)),none,none]) ⟨rfl,by decide⟩ rfl ?_ rfl
   unfold QC
   refine Jk ?_ h
   generalize w.map pt=WW at *
   generalize (a::l).map D.str=MM at *
   simp[lj,lp,vm,nM]
  refine fin _ ?_
  have i1:pIs (.lst .m ((a::l).map D.str)) .non=some (.bl false):=rfl
  have lt:((w.length:Int)+1 < 2)↔w.length=0:=by omega
  have sb:(w.length:Int)+1 - 1=w.length:=by omega
  generalize (w.map (·.1)).map D.int=YY at *
  generalize (w.map (·.1)).map Sum.inl=K2 at *
  generalize (l.map Sum.inr)=K1 at *
  generalize (a::l).map D.str=MM at *
  generalize l.map D.str=LL at *
  generalize w.map pt=WW at *
  by_cases hw0:w.length=0
  ·refine JY ?_
   have:=lt.mpr hw0
   simp[i1,hMl,hMz,hw0]
  have hw1:¬ ((w.length:Int)+1 < 2):=fun z=>hw0 (lt.mp z)
  by_cases hca:c=a
  case neg =>
   refine JY ?_
   have hbe:(c == a)=false:=by simpa using hca
   simp[i1,hMl,hMz,hw0,hw1,q3,hca,hbe]
  subst hca
  by_cases hn:l.Nodup
  case neg =>
   refine JY ?_
   have h2:¬ (ddup K1).length=w.length:=fun z=>hn (hd1.mp z)
   have h3:¬ ((ddup K1).length:Int)=(w.length:Int):=by omega
   simp[i1,hMl,hMz,hw0,hw1,q3,ct',isM,Zm,kd,kl,h3,sb,hn]
  have h2:=hd1.mpr hn
  refine Jk (env1:=[some dj,some (.int t),some (.str c),some (.tup WW),some (.lst .m MM),none,none]) ?_ ?_
  ·simp[i1,hMl,hMz,hw1,q3,ct',isM,Zm,kd,kl,h2,sb]
  by_cases hm:(w.map (·.1)).Nodup
  case neg =>
   refine JY ?_
   have h4:¬ (ddup K2).length=w.length:=fun z=>hm (hd2.mp z)
   have h5:¬ ((ddup K2).length:Int)=(w.length:Int):=by omega
   simp[ip,hWl,hz,lc1,Zm,kd2,kl2,h5,hm]
  have h4:=hd2.mpr hm
  refine Jk (env1:=[some dj,some (.int t),some (.str c),some (.tup WW),some (.lst .m MM),none,none]) ?_ ?_
  ·simp[ip,hWl,hz,lc1,Zm,kd2,kl2,h4]
  ·by_cases hs0:cnt t SS=0
   ·simp[ip,hWl,hz,lc2,sm,vc,hs0]
   ·simp[ip,hWl,hz,lc2,sm,vc,hs0,hw0,hm,hn]
end
end VS
namespace VS
open PySem L2 SeqAt
section
variable {js:List Jn} {ns:List Str} {a b:Str} {dn dj d:D} {t:Int} {n:Nat} {w:List (Int × Int)}
theorem ring_both (hd:Hold jt js dj) (hdn:dn.lend=dn) (h0:0≤t) (h1:t≤1000) (h:pln n d=true) (hl:∀ds,d=.tup ds→ds.length≤900) :
  ∃v:Bool,UP [dn,dj,.int t,.str a,d]=.ok (.bl v) []∧Uo [dj,.int t,.str a,d]=.ok (.bl v) []:=by
 rcases v_shows_ring (a:=a) hd hdn h0 h1 h hl with ⟨hw,e⟩ | ⟨w,rfl,_,hs,hwl,e⟩
 ·refine⟨false,e,?_⟩
  have vw:=Jb9 (dj:=dj) (a:=a) h hw
  have ll:=(Yw h).2
  have lj:=Hold.lend hd
  refine JN (env:=[some dj,some (.int t),some (.str a),some d,some .non,none,none]) ⟨rfl,by decide⟩ rfl ?_ rfl
  unfold QC
  refine Jk (env1:=[some dj,some (.int t),some (.str a),some d,some .non,none,none]) (by simp[YF,lj,ll,vw]) (JY ?_)
  simp
 ·exact⟨_,e,v_lring70 hd h0 h1 hs hwl⟩
def WD7 (dj:D) (a b:Str) (W:D) (o4:Option D):Env:=[some dj,some (.str a),some (.str b),some W,o4]
theorem way_both (hd:Hold jt js dj) (h:pln n d=true) (hl:∀ds,d=.tup ds→ds.length≤900) :
  ∃v:Bool,YT [dj,.str a,.str b,d]=.ok (.bl v) []∧ZN [dj,.str a,.str b,d]=.ok (.bl v) []:=by
 have ll:=(Yw h).2
 have lj:=Hold.lend hd
 rcases v_shows_anyW (a:=a) (b:=b) hd h hl with ⟨hw,e⟩ | ⟨w,rfl,_,hs,hwl,e⟩
 ·refine⟨false,e,?_⟩
  have vw:=Jb9 (dj:=dj) (a:=a) h hw
  refine JN (env:=WD7 dj a b d (some .non)) ⟨rfl,by decide⟩ rfl ?_ rfl
  unfold QW
  refine Jk (env1:=WD7 dj a b d (some .non)) (by unfold WD7;simp[YF,lj,ll,vw]) ?_
  unfold WD7;rfl
 ·refine⟨_,e,?_⟩
  have vm:=Jdb (a:=a) hd (w:=w) (by omega) hs
  have lp:=Jad w
  cases ek:wk js a w with
  | none =>
   have ho:okW js a w b=false:=by unfold okW okR;rw[ek]
   rw[ho]
   rw[ek]at vm
   simp only at vm
   refine JN (env:=WD7 dj a b (.tup (w.map pt)) (some .non)) ⟨rfl,by decide⟩ rfl ?_ rfl
   unfold QW
   refine Jk (env1:=WD7 dj a b (.tup (w.map pt)) (some .non)) ?_ ?_
   ·unfold WD7;generalize w.map pt=WW at *;simp[YF,lj,lp,vm]
   ·unfold WD7;rfl
  | some l =>
   have hlen:=JcL ek
   rw[okW_nd ek]
   rw[ek]at vm
   simp only at vm
   obtain⟨l0,c,el⟩:∃l0 c,a::l=l0++[c]:=by
    rcases List.eq_nil_or_concat (a::l) with h | ⟨l0,c,h⟩
    ·cases h
    ·exact⟨l0,c,by rw[h,List.concat_eq_append]⟩
   have q3:atI ((a::l).map D.str) (-1)=some (.str c):=by
    rw[el,List.map_append,List.map_cons,List.map_nil]
    exact ZB _ _
   have hlast:(a::l).getLast?=some c:=by rw[el];simp
   have nM:nols ((a::l).map D.str)=true:=Qv _
   rw[hlast]
   have ls:=lenSet_strs (a::l) (by simp;omega) .m (env:=WD7 dj a b (.tup (w.map pt)) (some (.lst .m ((a::l).map D.str)))) (i:=4) rfl
   refine JN (env:=WD7 dj a b (.tup (w.map pt)) (some (.lst .m ((a::l).map D.str)))) ⟨rfl,by decide⟩ rfl ?_ rfl
   unfold QW
   refine Jk (env1:=WD7 dj a b (.tup (w.map pt)) (some (.lst .m ((a::l).map D.str)))) ?_ ?_
   ·unfold WD7;generalize w.map pt=WW at *;generalize (a::l).map D.str=MM at *;simp[YF,lj,lp,vm,nM]
   ·have i1:ZY (.lst .m ((a::l).map D.str)) .non=some (.bl true):=rfl
    have st:(cAnd (c2 ZY (cVar 4) (cK .non)) (cAnd (c2 pEq (cIdx (cVar 4) (c1 pNeg (cK (.int 1)))) (cVar 2)) (c2 pEq (Zw (cVar 4)) (cL pLen (Jb (cVar 4) cNil))))) (WD7 dj a b (.tup (w.map pt)) (some (.lst .m ((a::l).map D.str))))=.ok (.bl (decide (some c=some b) && decide (a::l).Nodup)) (WD7 dj a b (.tup (w.map pt)) (some (.lst .m ((a::l).map D.str)))):=by
     generalize (c2 pEq (Zw (cVar 4)) (cL pLen (Jb (cVar 4) cNil)))=CC at *
     generalize decide (a::l).Nodup=nb at *
     unfold WD7 at *
     generalize (a::l).map D.str=MM at *
     by_cases hcb:c=b
     ·simp[i1,q3,hcb,ls]
     ·have hbe:(c == b)=false:=by simpa using hcb
      simp[i1,q3,hcb,hbe]
    unfold sRet;rw[st]
def PD7 (dn dj:D) (a b:Str) (W:D):Env:=[some dn,some dj,some (.str a),some (.str b),some W,none,none,none,none]
theorem parted_both (hn:HSt ns dn) (hnl:dn.lend=dn) (hj:Hold jt js dj) (hjl:js.length≤1000) (h:pln n d=true) (hsz:∀ds,Zm d=some ds→ds.length≤1000) :
  ∃v:Bool,Yi [dn,dj,.str a,.str b,d]=.ok (.bl v) []∧UV [dn,dj,.str a,.str b,d]=.ok (.bl v) []:=by
 have pl:=JhF h
 have vs:=Jbl (a:=a) (b:=b) hn hj hjl h hsz
 cases hL:isL d with
 | false =>
  rw[hL]at pl
  have e:Yi [dn,dj,.str a,.str b,d]=.ok (.bl false) []:=by
   rcases vs with ⟨e,_⟩ | ⟨l,_,h2,_⟩
   ·exact e
   ·rw[hL]at h2;cases h2
  refine⟨false,e,JN (env0:=PD7 dn dj a b d) (env:=PD7 dn dj a b d) ⟨rfl,by decide⟩ rfl ?_ rfl⟩
  unfold Qg
  refine JY (if_t (env1:=PD7 dn dj a b d) ?_ rfl)
  unfold PD7;simp[pl]
 | true =>
 rw[hL]at pl
 obtain⟨ds,sq,hd,hx,hz,src⟩:=JbZ h hL
 have hz9:=hsz ds sq
 have hzz:ds.length≤sizeLine:=Yh (by omega)
 have lc:=Jbq (vs:=[5]) (g:=gSet 5) (ce:=cAnd (cL pIsi (Jb (cVar 5) (Jb (cK (.ty "str")) cNil))) (c2 pInW (cVar 5) (cVar 0))) (env:=PD7 dn dj a b d) (y:=fun x=>.bl (isNm ns x)) (ds:=ds) fun x hm=>by
  have px:=hx x hm
  have ps:=Jgk px
  refine⟨(PD7 dn dj a b d).set 5 (some x),rfl,rfl,?_,rfl⟩
  cases x with
  | str s =>
   have:=hn.inn s
   unfold PD7
   simp[ps,isS,this,isNm]
  | _=>unfold PD7;simp[ps,isS,isNm]
 have em:(ds.map fun x=>D.bl (isNm ns x))=(ds.map (isNm ns)).map D.bl:=by rw[List.map_map];rfl
 rw[em]at lc
 have al:pAll [.lst .m ((ds.map (isNm ns)).map D.bl)]=some (.bl (ds.all (isNm ns))):=by rw[Jbc,List.all_map];rfl
 have s4:=src (PD7 dn dj a b d) 4 rfl
 have lcc:cLc (JB (cVar 4)) [5] (gSet 5) cYes (cAnd (cL pIsi (Jb (cVar 5) (Jb (cK (.ty "str")) cNil))) (c2 pInW (cVar 5) (cVar 0))) (PD7 dn dj a b d)=.ok (.lst .m ((ds.map (isNm ns)).map D.bl)) (PD7 dn dj a b d):=by
  rw[e_lc,s4]
  have w1:Ur (PD7 dn dj a b d) [5]=PD7 dn dj a b d:=rfl
  have cl:ZX (PD7 dn dj a b d) [5]=true:=rfl
  have bk:Qb (PD7 dn dj a b d) (PD7 dn dj a b d) [5]=PD7 dn dj a b d:=rfl
  simp only[VS.R.bind,cl,hzz,and_self,if_true,w1,lc,bk]
 have tst:(tcOr (Yq (cTt (cL pIsi (Jb (cVar 4) (Jb (cTup (Jb (cK (.ty "list")) (Jb (cK (.ty "tuple")) cNil))) cNil))))) (Yq (cTt (cL pAll (Jb (cLc (JB (cVar 4)) [5] (gSet 5) cYes (cAnd (cL pIsi (Jb (cVar 5) (Jb (cK (.ty "str")) cNil))) (c2 pInW (cVar 5) (cVar 0)))) cNil))))) (PD7 dn dj a b d)=.ok (!(ds.all (isNm ns))) (PD7 dn dj a b d):=by
  have g4:(PD7 dn dj a b d)[4]?=some (some d):=rfl
  have z2:2≤sizeLine:=UY (by decide)
  generalize cLc (JB (cVar 4)) [5] (gSet 5) cYes (cAnd (cL pIsi (Jb (cVar 5) (Jb (cK (.ty "str")) cNil))) (c2 pInW (cVar 5) (cVar 0)))=CC at *
  generalize PD7 dn dj a b d=EE at *
  generalize (ds.map (isNm ns)).map D.bl=BB at *
  simp[g4,pl,z2,lcc,al]
 rcases vs with ⟨e,hbad⟩ | ⟨l,hS,_,hin,hll,e⟩
 ·have hall:ds.all (isNm ns)=false:=by
   rcases hbad with q | ⟨ds',q1,_,q3⟩
   ·rw[hL]at q;cases q
   ·rw[sq]at q1;cases q1;exact q3
  rw[hall]at tst
  refine⟨false,e,JN (env0:=PD7 dn dj a b d) (env:=PD7 dn dj a b d) ⟨rfl,by decide⟩ rfl ?_ rfl⟩
  unfold Qg
  exact JY (if_t tst rfl)
 ·have eds:ds=l.map D.str:=by have:=hS.seq;rw[sq]at this;injection this
  have hall:ds.all (isNm ns)=true:=by rw[eds];exact Jgb hin
  rw[hall]at tst
  refine⟨_,e,?_⟩
  have n1:=hS.nin a
  have i1:=hS.inn b
  have lsn:(c2 pNe (Zw (cVar 4)) (cL pLen (Jb (cVar 4) cNil))) (PD7 dn dj a b d)=.ok (.bl (!decide l.Nodup)) (PD7 dn dj a b d):=by
   obtain⟨k,hk1,hk2,hk3⟩:=hS.lset hll
   have hk4:k.length≤4000:=by omega
   have sq':=hS.seq
   have el:=hS.len
   have g4:(PD7 dn dj a b d)[4]?=some (some d):=rfl
   generalize PD7 dn dj a b d=EE at *
   generalize l.map D.str=LL at *
   by_cases hn:l.Nodup
   ·have:=hk3.mpr hn
    rw[decide_eq_true hn]
    simp[g4,sq',hk1,hk4,this,el]
   ·have h1:¬ (ddup k).length=l.length:=fun z=>hn (hk3.mp z)
    rw[decide_eq_false hn]
    have h2:¬ ((ddup k).length:Int)=(l.length:Int):=by omega
    simp[g4,sq',hk1,hk4,h2,el]
  have t2:(tcOr (cTt (c2 pNe (Zw (cVar 4)) (cL pLen (Jb (cVar 4) cNil)))) (tcOr (cTt (c2 Uu (cVar 2) (cVar 4))) (cTt (c2 pInW (cVar 3) (cVar 4))))) (PD7 dn dj a b d)=.ok (!(decide l.Nodup && (decide (a∈l) && decide (b∉l)))) (PD7 dn dj a b d):=by
   have g2:(PD7 dn dj a b d)[2]?=some (some (.str a)):=rfl
   have g3:(PD7 dn dj a b d)[3]?=some (some (.str b)):=rfl
   have g4:(PD7 dn dj a b d)[4]?=some (some d):=rfl
   generalize (c2 pNe (Zw (cVar 4)) (cL pLen (Jb (cVar 4) cNil)))=CC at *
   generalize PD7 dn dj a b d=EE at *
   by_cases q1:l.Nodup<;>by_cases q2:a∈l<;>by_cases q3:b∈l<;>simp[lsn,g2,g3,g4,n1,i1,q1,q2,q3]
  have lc3:=Jbx (f:=jt) (vs:=[6,7,8]) (g:=JI 3 (Je (gSet 6) (Je (gSet 7) (Je (gSet 8) JL)))) (ce:=c2 pNe (c2 pInW (cVar 6) (cVar 4)) (c2 pInW (cVar 7) (cVar 4))) (env:=PD7 dn dj a b d) (y:=fun j=>.bl (!(decide (j.1∈l) == decide (j.2.1∈l)))) (xs:=js) fun j _=>by
   have u1:=hS.inn j.1
   have u2:=hS.inn j.2.1
   refine⟨(((PD7 dn dj a b d).set 6 (some (.str j.1))).set 7 (some (.str j.2.1))).set 8 (some (.int j.2.2)),rfl,rfl,?_,rfl⟩
   have ne:∀x y:Bool,pNe (.bl x) (.bl y)=some (.bl (!(x == y))):=fun x y=>by cases x<;>cases y<;>rfl
   unfold PD7
   simp[u1,u2,ne]
  have em3:(js.map fun j=>D.bl (!(decide (j.1∈l) == decide (j.2.1∈l))))=(js.map fun j=>!(decide (j.1∈l) == decide (j.2.1∈l))).map D.bl:=by rw[List.map_map];rfl
  rw[em3]at lc3
  have an:pAny [.lst .m ((js.map fun j=>!(decide (j.1∈l) == decide (j.2.1∈l))).map D.bl)]=some (.bl (js.any fun j=>!(decide (j.1∈l) == decide (j.2.1∈l)))):=by
   show (bls ((js.map fun j=>!(decide (j.1∈l) == decide (j.2.1∈l))).map D.bl)).map (fun bs=>D.bl (bs.any id))=_
   rw[JgH,Option.map_some,List.any_map];rfl
  have hzj:(js.map jt).length≤sizeLine:=by rw[List.length_map];exact Yh (by omega)
  have lcc3:cLc (JB (cVar 1)) [6,7,8] (JI 3 (Je (gSet 6) (Je (gSet 7) (Je (gSet 8) JL)))) cYes (c2 pNe (c2 pInW (cVar 6) (cVar 4)) (c2 pInW (cVar 7) (cVar 4))) (PD7 dn dj a b d)=.ok (.lst .m ((js.map fun j=>!(decide (j.1∈l) == decide (j.2.1∈l))).map D.bl)) (PD7 dn dj a b d):=by
   have src2:JB (cVar 1) (PD7 dn dj a b d)=.ok (js.map jt) (PD7 dn dj a b d):=hj.srcJ 1 rfl
   rw[e_lc,src2]
   have w1:Ur (PD7 dn dj a b d) [6,7,8]=PD7 dn dj a b d:=rfl
   have cl:ZX (PD7 dn dj a b d) [6,7,8]=true:=rfl
   have bk:Qb (PD7 dn dj a b d) (PD7 dn dj a b d) [6,7,8]=PD7 dn dj a b d:=rfl
   simp only[VS.R.bind,cl,hzj,and_self,if_true,w1,lc3,bk]
  have epB:pB js a b l=((decide l.Nodup && (decide (a∈l) && decide (b∉l))) && !(js.any fun j=>!(decide (j.1∈l) == decide (j.2.1∈l)))):=by
   unfold pB
   rw[List.not_any_eq_all_not]
   simp[Bool.and_assoc]
  refine JN (env0:=PD7 dn dj a b d) (env:=PD7 dn dj a b d) ⟨rfl,by decide⟩ rfl ?_ rfl
  unfold Qg
  refine Jk (env1:=PD7 dn dj a b d) (if_f tst rfl) ?_
  rw[epB]
  cases hv:(decide l.Nodup && (decide (a∈l) && decide (b∉l))) with
  | false =>
   rw[hv]at t2
   exact JY (if_t t2 rfl)
  | true =>
   rw[hv]at t2
   refine Jk (env1:=PD7 dn dj a b d) (if_f t2 rfl) ?_
   generalize cLc (JB (cVar 1)) [6,7,8] (JI 3 (Je (gSet 6) (Je (gSet 7) (Je (gSet 8) JL)))) cYes (c2 pNe (c2 pInW (cVar 6) (cVar 4)) (c2 pInW (cVar 7) (cVar 4)))=CC at *
   generalize PD7 dn dj a b d=EE at *
   generalize ((js.map fun j=>!(decide (j.1∈l) == decide (j.2.1∈l))).map D.bl)=BB at *
   simp[lcc3,an]
end
end VS
namespace VS
open PySem L2 SeqAt
mutual
theorem JcO:∀d:D,d.lend.thaw=d.thaw.lend
 | .tup ds=>by show D.tup (thaws (lends ds))=.tup (lends (thaws ds));rw[lends_thaws ds]
 | .ftu ds=>by show D.tup (thaws (lends ds))=.tup (lends (thaws ds));rw[lends_thaws ds]
 | .lst g ds=>by show D.lst g.lend (thaws (lends ds))=.lst g.lend (lends (thaws ds));rw[lends_thaws ds]
 | .non=>rfl
 | .bl _=>rfl
 | .int _=>rfl
 | .str _=>rfl
 | .ty _=>rfl
 | .dct _ _ _=>rfl
 | .obj _ _ _ _=>rfl
 | .exc _ _ _=>rfl
theorem lends_thaws:∀ds:List D,thaws (lends ds)=lends (thaws ds)
 | []=>rfl
 | d::ds=>by show d.lend.thaw::thaws (lends ds)=d.thaw.lend::lends (thaws ds);rw[JcO d,lends_thaws ds]
end
mutual
theorem fix_in:∀{d:D},d.imm=true→d.nol=true→d.fix=d
 | .non,_,_=>rfl
 | .bl _,_,_=>rfl
 | .int _,_,_=>rfl
 | .str _,_,_=>rfl
 | .ty _,_,_=>rfl
 | .exc _ _ _,_,_=>rfl
 | .tup ds,h,h2=>by show D.tup (fixs ds)=_;rw[fixs_in h h2]
 | .ftu ds,h,h2=>by show D.ftu (fixs ds)=_;rw[fixs_in h h2]
 | .lst g ds,h,h2=>by
  have a:=Bool.and_eq_true_iff.mp h
  have b:=Bool.and_eq_true_iff.mp h2
  show D.lst g.fix (fixs ds)=_
  rw[fixs_in a.2 b.2]
  cases g<;>first | rfl | (exact absurd a.1 (by decide))
 | .dct g ks ds,h,h2=>by
  have a:=Bool.and_eq_true_iff.mp h
  have b:=Bool.and_eq_true_iff.mp h2
  show D.dct g.fix ks (fixs ds)=_
  rw[fixs_in a.2 b.2]
  cases g<;>first | rfl | (exact absurd a.1 (by decide))
 | .obj g c ns ds,h,h2=>by
  have a:=Bool.and_eq_true_iff.mp h
  have b:=Bool.and_eq_true_iff.mp h2
  show D.obj g.fix c ns (fixs ds)=_
  rw[fixs_in a.2 b.2]
  cases g<;>first | rfl | (exact absurd a.1 (by decide))
theorem fixs_in:∀{ds:List D},imms ds=true→nols ds=true→fixs ds=ds
 | [],_,_=>rfl
 | d::ds,h,h2=>by
  have a:=Bool.and_eq_true_iff.mp h
  have b:=Bool.and_eq_true_iff.mp h2
  show d.fix::fixs ds=_
  rw[fix_in a.1 b.1,fixs_in a.2 b.2]
end
mutual
theorem JdC:∀d:D,d.lend.lend=d.lend
 | .non=>rfl
 | .bl _=>rfl
 | .int _=>rfl
 | .str _=>rfl
 | .ty _=>rfl
 | .exc _ _ _=>rfl
 | .tup ds=>by show D.tup (lends (lends ds))=.tup (lends ds);rw[lends2 ds]
 | .ftu ds=>by show D.ftu (lends (lends ds))=.ftu (lends ds);rw[lends2 ds]
 | .lst g ds=>by show D.lst .l (lends (lends ds))=.lst .l (lends ds);rw[lends2 ds]
 | .dct g ks ds=>by show D.dct .l ks (lends (lends ds))=.dct .l ks (lends ds);rw[lends2 ds]
 | .obj g c ns ds=>by show D.obj .l c ns (lends (lends ds))=.obj .l c ns (lends ds);rw[lends2 ds]
theorem lends2:∀ds:List D,lends (lends ds)=lends ds
 | []=>rfl
 | d::ds=>by show d.lend.lend::lends (lends ds)=d.lend::lends ds;rw[JdC d,lends2 ds]
end
inductive Fx {α:Type} (f:α→D) (l:List α):D→Prop
 | f:Fx f l (.lst .f (l.map f))
 | t:Fx f l (.tup (l.map f))
theorem Fx.hold {α:Type} {f:α→D} {l:List α} {d:D} (h:Fx f l d) (hl:lends (l.map f)=l.map f):Hold f l d.lend:=by
 cases h
 ·show Hold f l (D.lst .l (lends (l.map f)));rw[hl];exact .l
 ·show Hold f l (D.tup (lends (l.map f)));rw[hl];exact .t
theorem Hold.hst {ns:List Str} {dn:D} (h:Hold D.str ns dn):HSt ns dn:=by cases h;exact .l;exact .t
theorem lends_nr (rs:List (Str × Int)):lends (rs.map nr)=rs.map nr:=JcM (fun _=>rfl) rs
theorem Jbz:∀{ds:List D},(∀d∈ds,d.lend.py=d.py)→pys (lends ds)=pys ds
 | [],_=>rfl
 | d::ds,h=>by
  show pys (d.lend::lends ds)=_
  unfold pys
  rw[h d (by simp),Jbz fun x hx=>h x (by simp[hx])]
theorem Je5:∀{n m b:Nat} {d:D},pzb n m b d=true→d.lend.py=d.py
 | 0,_,_,_,h=>by simp[pzb]at h
 | n+1,m,b,d,h=>by
  cases d with
  | non=>rfl
  | bl _=>rfl
  | int i=>rfl
  | str s=>rfl
  | tup ds =>
   simp only[pzb,Bool.and_eq_true,decide_eq_true_eq,List.all_eq_true]at h
   show (pys (lends ds)).map PyData.tuple=(pys ds).map PyData.tuple
   rw[Jbz fun x hx=>Je5 (h.2 x hx)]
  | lst g ds =>
   cases g<;>simp only[pzb,Bool.and_eq_true,decide_eq_true_eq,List.all_eq_true]at h<;>first
    | (cases h;done)
    | (show (pys (lends ds)).map PyData.list=(pys ds).map PyData.list
       rw[Jbz fun x hx=>Je5 (h.2 x hx)])
  | _=>simp[pzb]at h
theorem str3 {x y z:D} {n m b:Nat} (hb:b≤50) (hn:n≤90) (hx:pzb n m b x=true) (hy:pzb n m b y=true) (hz:pzb n m b z=true) (wx:wz x≤20000) (wy:wz y≤1000) (wzz:wz z≤80000):∃s,Jfy [.lst .m [x.lend,y.lend,z.lend]]=some (.str s):=by
 have hall:∀q∈[x,y,z],pzb n m b q=true:=fun q hq=>by
  simp only[List.mem_cons,List.mem_nil_iff,or_false]at hq
  rcases hq with rfl | rfl | rfl
  ·exact hx
  ·exact hy
  ·exact hz
 obtain⟨ys,f1,f2,f3,f4,f5⟩:=Jcx (n:=n) (xs:=[x,y,z]) fun q hq=>JdA hb (hall q hq)
 have e1:pys [x.lend,y.lend,z.lend]=some ys:=by
  have:=Jbz (ds:=[x,y,z]) fun q hq=>Je5 (hall q hq)
  rw[←f1,←this];rfl
 have e5:wzs [x,y,z]=(wz x+1)+((wz y+1)+((wz z+1)+0)):=by simp[wzs]
 let Y:PyData:=.list ys
 have eY:(D.lst .m [x.lend,y.lend,z.lend]).py=some Y:=by
  show (pys [x.lend,y.lend,z.lend]).map PyData.list=_
  rw[e1];rfl
 have l1:Y.leavesShort 80=true:=f2
 have hs:Y.shown.length≤sizeLine:=by
  have h:=PyData.shown_le 80 (by decide) Y l1
  have:Y.weight=PyData.weightAll ys:=rfl
  rw[sizeLine_eq];omega
 have ok:shOk Y=true:=by
  have h1:Y.showable=true:=f3
  have h2:Y.depth≤100:=by
   show PyData.depth (.list ys)≤100
   simp only[PyData.depth];omega
  unfold shOk;rw[h1,decide_eq_true hs,decide_eq_true h2];rfl
 refine⟨Y.shown,?_⟩
 show JcU [.lst .m [x.lend,y.lend,z.lend]]=_
 unfold JcU
 simp only[eY,ok,if_true]
structure Kd (which:Nat) (P e:D):Prop where
 rz:Rz 60 800 40 P e
 wt:wz e≤80000
 top:which=0→∃xs,P=.lst .f xs∨P=.ftu xs
def WD70 (dn dj:D) (z:Int):D:=.tup [dn,dj,.int z]
def EN70 (a b:Str):D:=.tup [.str a,.str b]
section
variable {ns:List Str} {js:List Jn} {z:Int} {dn dj:D} {a b:Str}
def SD70 (w:Nat) (dn dj:D) (z:Int) (a b:Str) (P:D) (o4 o5 o6 o7 o8:Option D):Env:=[some (.int (w:Nat)),some (WD70 dn dj z),some (EN70 a b),some P,o4,o5,o6,o7,o8]
theorem v_said70 {w:Nat} (hw:w≤3) (hn:HSt ns dn) (hnd:ns.Nodup) (hnl':dn.lend=dn) (hdj:Hold jt js dj) (hdl:dj.lend=dj) (hnl:ns.length≤900) (hjl:js.length≤1000) (h0:0≤z) (h1:z≤1000) (hone:∀j∈js,j.1∈ns) (hoth:∀j∈js,j.2.1∈ns) (idn:dn.imm=true) (idj:dj.imm=true) {P e:D} (hP:Kd w P e) :
  ∃v:Bool,UG [.int (w:Nat),WD70 dn dj z,EN70 a b,P.lend]=.ok (.tup [.bl v,.bl v]) []∧(w=0→v=RBs ns js z e.lend)∧(w=2→YT [dj,.str a,.str b,e.lend]=.ok (.bl v) [])∧(w=3→Yi [dn,dj,.str a,.str b,e.lend]=.ok (.bl v) []):=by
 have el:P.lend.thaw=e.lend:=by rw[JcO,hP.rz.th]
 have pl:pls 60 800 e.lend=true:=Jdj (by decide) hP.rz.ok
 have pn:pln 60 e.lend=true:=JbC (by decide) pl
 have hsz:∀ds,Zm e.lend=some ds→ds.length≤900:=fun ds hq=>by
  cases hL:isL e.lend with
  | false=>rw[seq_no pn hL]at hq;cases hq
  | true =>
   obtain⟨ds',e1,_,_,hl,_⟩:=pls_seq (by decide) pl hL
   rw[hq]at e1;cases e1;omega
 have ht:∀ds,e.lend=.tup ds→ds.length≤900:=fun ds hq=>hsz ds (by rw[hq];rfl)
 have le:=(Yw pn).2
 have lP:=JdC P
 have s1:(sAsg (cGet 1) (JI 3 (Je (gSet 4) (Je (gSet 5) (Je (gSet 6) JL))))) (SD70 w dn dj z a b P.lend none none none none none)=.nx (SD70 w dn dj z a b P.lend (some dn) (some dj) (some (.int z)) none none):=by
  have iw:(WD70 dn dj z).imm=true:=by show (dn.imm && (dj.imm && (true && true)))=true;rw[idn,idj];rfl
  unfold SD70;unfold WD70 at *;simp[iw,idn,idj]
 have s2:(sAsg (cGet 2) (JI 2 (Je (gSet 7) (Je (gSet 8) JL)))) (SD70 w dn dj z a b P.lend (some dn) (some dj) (some (.int z)) none none)=.nx (SD70 w dn dj z a b P.lend (some dn) (some dj) (some (.int z)) (some (.str a)) (some (.str b))):=by
  unfold SD70 EN70;simp
 have fin:∀v:Bool,(∀X:CS,True)→∀env,QJ (SD70 w dn dj z a b P.lend none none none none none)=.rt (.tup [.bl v,.bl v]) env→Yf [false,false,false,false] env=some []→UG [.int (w:Nat),WD70 dn dj z,EN70 a b,P.lend]=.ok (.tup [.bl v,.bl v]) []:=fun v _ env hb ho=>JN ⟨rfl,by decide⟩ rfl hb ho
 have z2:2≤sizeLine:=UY (by decide)
 have hcase:w=0∨w=1∨w=2∨w=3:=by omega
 rcases hcase with rfl | rfl | rfl | rfl
 ·have hdc:∀rs:List (Str × Int),isL P.lend.thaw=true→Zm P.lend.thaw=some (rs.map nr)→Jeg [P.lend]=Jaw [.lst .l (rs.map nr)]:=fun rs _ sq=>by
   obtain⟨xs,hx | hx⟩:=hP.top rfl
   ·subst hx
    have e1:thaws (lends xs)=rs.map nr:=by
     have:Zm (D.lst .l (thaws (lends xs)))=some (rs.map nr):=sq
     injection this
    show Jaw [.lst .l (thaws (lends xs))]=_
    rw[e1]
   ·subst hx
    have e1:thaws (lends xs)=rs.map nr:=by
     have:Zm (D.tup (thaws (lends xs)))=some (rs.map nr):=sq
     injection this
    show JdI [.ftu (thaws (lends xs))]=_
    rw[e1,JfS];rfl
  have v1:=v_shows_any (Pd:=P.lend) hn hnl' hdj (by omega) hjl h0 h1 hone hoth (by rw[el];exact pn) (fun ds hq=>hsz ds (by rw[←el];exact hq)) hdc
  have v2:=v_due_any hn hnd hdj hnl hjl h0 h1 hone hoth (R:=e.lend) pn hsz
  rw[el]at v1
  refine⟨RBs ns js z e.lend,?_,fun _=>rfl,fun h=>(by cases h),fun h=>(by cases h)⟩
  refine fin _ (fun _=>trivial) (SD70 0 dn dj z a b P.lend (some dn) (some dj) (some (.int z)) (some (.str a)) (some (.str b))) ?_ rfl
  unfold QJ
  refine Jk s1 (Jk s2 (JY (if_t (env1:=SD70 0 dn dj z a b P.lend (some dn) (some dj) (some (.int z)) (some (.str a)) (some (.str b))) rfl ?_)))
  generalize RBs ns js z e.lend=v at *
  generalize hL:P.lend=L at *
  unfold SD70
  simp[hnl',hdl,lP,el,le,v1,v2,z2]
 ·obtain⟨v,e1,e2⟩:=ring_both (a:=a) hdj hnl' h0 h1 pn ht
  refine⟨v,?_,fun h=>(by cases h),fun h=>(by cases h),fun h=>(by cases h)⟩
  refine fin _ (fun _=>trivial) (SD70 1 dn dj z a b P.lend (some dn) (some dj) (some (.int z)) (some (.str a)) (some (.str b))) ?_ rfl
  unfold QJ
  refine Jk s1 (Jk s2 (Jk (env1:=SD70 1 dn dj z a b P.lend (some dn) (some dj) (some (.int z)) (some (.str a)) (some (.str b))) (if_f (env1:=SD70 1 dn dj z a b P.lend (some dn) (some dj) (some (.int z)) (some (.str a)) (some (.str b))) rfl rfl) (JY (if_t (env1:=SD70 1 dn dj z a b P.lend (some dn) (some dj) (some (.int z)) (some (.str a)) (some (.str b))) rfl ?_))))
  generalize hL:P.lend=L at *
  unfold SD70
  simp[hnl',hdl,lP,el,le,e1,e2,z2]
 ·obtain⟨v,e1,e2⟩:=way_both (a:=a) (b:=b) hdj pn ht
  refine⟨v,?_,fun h=>(by cases h),fun _=>e1,fun h=>(by cases h)⟩
  refine fin _ (fun _=>trivial) (SD70 2 dn dj z a b P.lend (some dn) (some dj) (some (.int z)) (some (.str a)) (some (.str b))) ?_ rfl
  unfold QJ
  refine Jk s1 (Jk s2 (Jk (env1:=SD70 2 dn dj z a b P.lend (some dn) (some dj) (some (.int z)) (some (.str a)) (some (.str b))) (if_f (env1:=SD70 2 dn dj z a b P.lend (some dn) (some dj) (some (.int z)) (some (.str a)) (some (.str b))) rfl rfl) (Jk (env1:=SD70 2 dn dj z a b P.lend (some dn) (some dj) (some (.int z)) (some (.str a)) (some (.str b))) (if_f (env1:=SD70 2 dn dj z a b P.lend (some dn) (some dj) (some (.int z)) (some (.str a)) (some (.str b))) rfl rfl) (JY (if_t (env1:=SD70 2 dn dj z a b P.lend (some dn) (some dj) (some (.int z)) (some (.str a)) (some (.str b))) rfl ?_)))))
  generalize hL:P.lend=L at *
  unfold SD70
  simp[hnl',hdl,lP,el,le,e1,e2,z2]
 ·obtain⟨v,e1,e2⟩:=parted_both (a:=a) (b:=b) hn hnl' hdj hjl pn fun ds hq=>Nat.le_trans (hsz ds hq) (by decide)
  refine⟨v,?_,fun h=>(by cases h),fun h=>(by cases h),fun _=>e1⟩
  refine fin _ (fun _=>trivial) (SD70 3 dn dj z a b P.lend (some dn) (some dj) (some (.int z)) (some (.str a)) (some (.str b))) ?_ rfl
  unfold QJ
  refine Jk s1 (Jk s2 (Jk (env1:=SD70 3 dn dj z a b P.lend (some dn) (some dj) (some (.int z)) (some (.str a)) (some (.str b))) (if_f (env1:=SD70 3 dn dj z a b P.lend (some dn) (some dj) (some (.int z)) (some (.str a)) (some (.str b))) rfl rfl) (Jk (env1:=SD70 3 dn dj z a b P.lend (some dn) (some dj) (some (.int z)) (some (.str a)) (some (.str b))) (if_f (env1:=SD70 3 dn dj z a b P.lend (some dn) (some dj) (some (.int z)) (some (.str a)) (some (.str b))) rfl rfl) (Jk (env1:=SD70 3 dn dj z a b P.lend (some dn) (some dj) (some (.int z)) (some (.str a)) (some (.str b))) (if_f (env1:=SD70 3 dn dj z a b P.lend (some dn) (some dj) (some (.int z)) (some (.str a)) (some (.str b))) rfl rfl) ?_))))
  generalize hL:P.lend=L at *
  unfold SD70
  simp[hnl',hdl,lP,el,le,e1,e2,z2]
end
end VS
namespace VS
open PySem L2 SeqAt
section
variable {ns:List Str} {js:List Jn} {z:Int} {dn dj:D} {a b:Str}
theorem JfT {n:Str} (h:UB n=true) (k m:Nat):pzb (k+1) m 40 (.str n)=true∧wz (.str n)≤8:=by
 have hb:=JeV h
 refine⟨by rw[pz_s];exact Jb4 hb (by decide),?_⟩
 rw[JeP]
 unfold aB at hb
 simp only[Bool.and_eq_true,decide_eq_true_eq]at hb
 exact hb.1
theorem JiK {i:Int} (h:i.natAbs≤10 ^ 31) (k m:Nat):pzb (k+1) m 40 (.int i)=true∧wz (.int i)≤130:=by
 have e:(10:Nat) ^ 31≤10 ^ 31 * (40+1):=Nat.le_mul_of_pos_right _ (by decide)
 have e2:(10:Nat) ^ 31≤10 ^ 35:=by decide
 exact⟨decide_eq_true (by omega),JeR (by omega)⟩
theorem Jib {xs:List D} {k w:Nat} (h:∀x∈xs,pzb k 800 40 x=true∧wz x≤w) (hl:xs.length≤800):(pzb (k+1) 800 40 (.tup xs)=true∧wz (.tup xs)≤xs.length * (w+1))∧(pzb (k+1) 800 40 (.lst .f xs)=true∧wz (.lst .f xs)≤xs.length * (w+1)):=by
 have key:(decide (xs.length≤800) && xs.all (pzb k 800 40))=true:=by
  rw[Bool.and_eq_true,decide_eq_true_eq,List.all_eq_true];exact⟨hl,fun x hx=>(h x hx).1⟩
 have e:=Je4 (xs:=xs) (w:=w) fun x hx=>(h x hx).2
 refine⟨⟨key,?_⟩,⟨key,?_⟩⟩
 ·rw[Ja6 (by decide) fun x hx=>(h x hx).1];exact e
 ·rw[Jfb (by decide) fun x hx=>(h x hx).1];exact e
structure Jw (ns:List Str) (js:List Jn):Prop where
 one:∀j∈js,j.1∈ns
 other:∀j∈js,j.2.1∈ns
 lo:∀j∈js,-2000000000000≤j.2.2
 hi:∀j∈js,j.2.2≤2000000000000
structure Wld (ns:List Str) (js:List Jn) (z:Int) (W:D):Prop where
 ex:∃dn dj,W=.tup [dn,dj,.int z]∧Fx D.str ns dn∧Fx jt js dj
 nd:ns.Nodup
 nl:ns.length≤40
 ok:∀n∈ns,UB n=true
 jo:Jw ns js
 jl:js.length≤90
 z0:0≤z
 z1:z≤1000
theorem Wld.pz {W:D} (h:Wld ns js z W):pzb 60 800 40 W=true∧wz W≤20000:=by
 obtain⟨dn,dj,rfl,hn,hj⟩:=h.ex
 have q1:pzb 58 800 40 dn=true∧wz dn≤40 * 9:=by
  have r:=Jib (k:=57) (w:=8) (xs:=ns.map D.str) (fun x hx=>by
   obtain⟨n,hn,rfl⟩:=List.mem_map.mp hx
   exact JfT (h.ok n hn) 56 800) (by rw[List.length_map];have:=h.nl;omega)
  have hl:(ns.map D.str).length * (8+1)≤40 * 9:=by rw[List.length_map];exact Nat.mul_le_mul_right _ h.nl
  cases hn
  ·exact⟨r.2.1,Nat.le_trans r.2.2 hl⟩
  ·exact⟨r.1.1,Nat.le_trans r.1.2 hl⟩
 have q2:pzb 58 800 40 dj=true∧wz dj≤90 * 160:=by
  have r:=Jib (k:=57) (w:=159) (xs:=js.map jt) (fun x hx=>by
   obtain⟨j,hj,rfl⟩:=List.mem_map.mp hx
   have a1:=JfT (h.ok _ (h.jo.one j hj)) 55 800
   have a2:=JfT (h.ok _ (h.jo.other j hj)) 55 800
   have c31:(2000000000000:Nat)≤10 ^ 31:=by decide
   have a3:=JiK (i:=j.2.2) (by have:=h.jo.lo j hj;have:=h.jo.hi j hj;omega) 55 800
   refine⟨?_,?_⟩
   ·show (decide (3≤800) && [D.str j.1,.str j.2.1,.int j.2.2].all (pzb 56 800 40))=true
    simp[a1.1,a2.1,a3.1]
   ·have e:wz (jt j)=wzs [.str j.1,.str j.2.1,.int j.2.2]:=Ja6 (n:=56) (m:=800) (b:=40) (by decide) fun x hx=>by
     simp only[List.mem_cons,List.mem_nil_iff,or_false]at hx
     rcases hx with rfl | rfl | rfl
     ·exact a1.1
     ·exact a2.1
     ·exact a3.1
    rw[e]
    have:=a1.2;have:=a2.2;have:=a3.2
    simp only[wzs,List.map_cons,List.map_nil,List.sum_cons,List.sum_nil];omega) (by rw[List.length_map];have:=h.jl;omega)
  have hl:(js.map jt).length * (159+1)≤90 * 160:=by rw[List.length_map];exact Nat.mul_le_mul_right _ h.jl
  cases hj
  ·exact⟨r.2.1,Nat.le_trans r.2.2 hl⟩
  ·exact⟨r.1.1,Nat.le_trans r.1.2 hl⟩
 have c31:(1000:Nat)≤10 ^ 31:=by decide
 have q3:=JiK (i:=z) (by have:=h.z0;have:=h.z1;omega) 57 800
 have hall:∀x∈[dn,dj,D.int z],pzb 58 800 40 x=true:=fun x hx=>by
  simp only[List.mem_cons,List.mem_nil_iff,or_false]at hx
  rcases hx with rfl | rfl | rfl
  ·exact q1.1
  ·exact q2.1
  ·exact q3.1
 have p59:pzb 59 800 40 (.tup [dn,dj,.int z])=true:=by
  show (decide (3≤800) && [dn,dj,D.int z].all (pzb 58 800 40))=true
  simp[q1.1,q2.1,q3.1]
 refine⟨JaJ (by decide) (by decide) (by decide) p59,?_⟩
 rw[Ja6 (by decide) hall]
 have:=q1.2;have:=q2.2;have:=q3.2
 simp only[wzs,List.map_cons,List.map_nil,List.sum_cons,List.sum_nil];omega
theorem en_pz (ha:UB a=true) (hb:UB b=true):pzb 60 800 40 (EN70 a b)=true∧wz (EN70 a b)≤1000:=by
 have a1:=JfT ha 58 800
 have a2:=JfT hb 58 800
 refine⟨?_,?_⟩
 ·show (decide (2≤800) && [D.str a,.str b].all (pzb 59 800 40))=true
  simp[a1.1,a2.1]
 ·have e:wz (EN70 a b)=wzs [.str a,.str b]:=Ja6 (n:=59) (m:=800) (b:=40) (by decide) fun x hx=>by
   simp only[List.mem_cons,List.mem_nil_iff,or_false]at hx
   rcases hx with rfl | rfl
   ·exact a1.1
   ·exact a2.1
  rw[e]
  have:=a1.2;have:=a2.2
  simp only[wzs,List.map_cons,List.map_nil,List.sum_cons,List.sum_nil];omega
theorem JfC {w:Nat} (hw:w≤3) {W:D} (hW:Wld ns js z W) (ha:UB a=true) (hb:UB b=true) {P e:D} (hP:Kd w P e) :
  ∃v:Bool,Qs [.int (w:Nat),W.lend,EN70 a b,P.lend]=.ok (.bl true) []∧UG [.int (w:Nat),W.lend,EN70 a b,P.lend]=.ok (.tup [.bl v,.bl v]) []∧(w=0→v=RBs ns js z e.lend) ∧
   (w=2→∃dj,Hold jt js dj∧YT [dj,.str a,.str b,e.lend]=.ok (.bl v) [])∧(w=3→∃dn dj,HSt ns dn∧Hold jt js dj∧Yi [dn,dj,.str a,.str b,e.lend]=.ok (.bl v) []):=by
 obtain⟨pw,ww⟩:=hW.pz
 obtain⟨dn,dj,rfl,hn,hj⟩:=hW.ex
 have Hn:=hn.hold (Zq ns)
 have Hj:=hj.hold (Jaq js)
 have iln:dn.lend.imm=true:=Hn.hst.imm
 have ilj:dj.lend.imm=true:=by
  have ij:=ZM js
  clear hj pw ww hW
  revert Hj
  generalize dj.lend=x
  intro Hj
  cases Hj
  ·show ((Fl.l == .l || Fl.l == .f) && imms (js.map jt))=true;rw[ij];rfl
  ·exact ij
 have hnl:=hW.nl
 have hjl:=hW.jl
 obtain⟨v,e1,e2,e3,e4⟩:=v_said70 (a:=a) (b:=b) hw Hn.hst hW.nd (JdC dn) Hj (JdC dj) (by omega) (by omega) hW.z0 hW.z1 hW.jo.one hW.jo.other iln ilj hP
 have eW:(D.tup [dn,dj,.int z]).lend=WD70 dn.lend dj.lend z:=rfl
 obtain⟨pe,we⟩:=en_pz ha hb
 obtain⟨s,hs⟩:=str3 (n:=60) (m:=800) (b:=40) (by decide) (by decide) pw pe hP.rz.ok ww we hP.wt
 have eE:(EN70 a b).lend=EN70 a b:=rfl
 rw[eW,eE]at hs
 rw[eW]
 refine⟨v,?_,e1,e2,fun h=>⟨_,Hj,e3 h⟩,fun h=>⟨_,_,Hn.hst,Hj,e4 h⟩⟩
 have el:P.lend.thaw=e.lend:=by rw[JcO,hP.rz.th]
 have lP:=JdC P
 have iw:(WD70 dn.lend dj.lend z).imm=true:=by show (dn.lend.imm && (dj.lend.imm && (true && true)))=true;rw[iln,ilj];rfl
 have lw:(WD70 dn.lend dj.lend z).lend=WD70 dn.lend dj.lend z:=by
  show D.tup [dn.lend.lend,dj.lend.lend,.int z]=_
  rw[JdC,JdC];rfl
 have ie:(EN70 a b).imm=true:=rfl
 have pl:pls 60 800 e.lend=true:=Jdj (by decide) hP.rz.ok
 have ipe:=(Yw (JbC (by decide) pl)).1
 have z3:3≤sizeLine:=UY (by decide)
 have p1:pEq (.bl v) (.bl v)=some (.bl true):=by cases v<;>rfl
 have p2:pEq (.str s) (.str s)=some (.bl true):=by
  unfold pEq
  have:eqOk 40 (.str s)=true:=rfl
  rw[this];simp[pyEq]
 have ib:pIsi [.bl v,.ty "bool"]=some (.bl true):=rfl
 refine JN (env0:=[some (.int (w:Nat)),some (WD70 dn.lend dj.lend z),some (EN70 a b),some P.lend,none,none,none]) (env:=[some (.int (w:Nat)),some (WD70 dn.lend dj.lend z),some (EN70 a b),some P.lend,some (.str s),some (.bl v),some (.bl v)]) ⟨rfl,by decide⟩ rfl ?_ rfl
 unfold JcW
 generalize hL:P.lend=L at *
 generalize e.lend=R at *
 generalize WD70 dn.lend dj.lend z=WW at *
 generalize EN70 a b=EE at *
 refine Jk (env1:=[some (.int (w:Nat)),some WW,some EE,some L,some (.str s),none,none]) (by simp[iw,ie,el,ipe,z3,hs]) ?_
 refine Jk (env1:=[some (.int (w:Nat)),some WW,some EE,some L,some (.str s),some (.bl v),some (.bl v)]) (by simp[lw,eE,lP,e1]) ?_
 simp[iw,ie,el,ipe,z3,hs,p1,p2,ib]
end
end VS
namespace VS
open PySem L2 SeqAt
section
variable {ns:List Str} {js:List Jn} {t z:Int}
theorem v_lnum7 (nd:ns.Nodup) (hns:ns.length≤1000) (hjs:js.length≤1000) (hone:∀j∈js,j.1∈ns) (hoth:∀j∈js,j.2.1∈ns) (hbd:∀j∈js,-1000000000000≤j.2.2∧j.2.2≤1000000000000) :
  ∃q:Q2,Zi [.lst .l (ns.map D.str),.lst .l (js.map jt)]=.ok (dN .m q.1 q.2) []∧q.1.Nodup∧(∀m,m∈q.1↔m∈ns)∧Bd q:=by
 obtain⟨gs,ec,w⟩:=Jh0 (js:=js) nd hns hjs hone hoth
 obtain⟨gw,gin⟩:=w.grp
 obtain⟨q,p4,p5,p6,p7,p8,f1,qn,qm,qb,qr⟩:=ln_groups (t:=0) gw gin hns hjs hone hbd none none none none none
 refine⟨q,?_,qn,qm,qb⟩
 have hcl:(cl gs).length≤sizeLine:=by rw[JhI];have:=JbA w;exact UY (by omega)
 have fx:=JeK (cl gs)
 have nr:=JeH (cl gs)
 have im:=JgO (cl gs)
 have src:JB (cFix (Jo YV (aRo (cVar 0) (aRo (cVar 1) aNil)))) (LN ns js 0 ([],fun _=>0) none none none none none)=.ok ((cl gs).map fR) (LN ns js 0 ([],fun _=>0) none none none none none):=by
  unfold LN;simp[ec,nr,fx,im]
 refine JN (env0:=[some (.lst .l (ns.map D.str)),some (.lst .l (js.map jt)),none,none,none,none,none,none]) (env:=(LN ns js 0 q p4 p5 p6 p7 p8).set 2 none) ⟨rfl,by decide⟩ rfl ?_ (by rfl)
 unfold Jbs
 refine Jk (env1:=LN ns js 0 ([],fun _=>0) none none none none none) (by unfold LN dN;simp) (Jk (env1:=LN ns js 0 q p4 p5 p6 p7 p8) (by rw[JbO,src];exact f1) ?_)
 have im2:(dN .m q.1 q.2).imm=false:=rfl
 unfold LN
 generalize dN .m q.1 q.2=F at *
 simp[im2]
theorem Jh5 {td:List Str} {o:Str→Int} {a:Str} (ha:a∈td):ixD (dN .l td o) (.str a)=some (.int (o a)):=by simp[dN,ixD,D.key,ha]
def coB (o:Str→Int) (z:Int) (j:Jn):Bool:=decide (cnt z (o j.1+j.2.2 - o j.2.1)=0)
def CO (js:List Jn) (td:List Str) (o:Str→Int) (z:Int) (fs:List Jn) (o4 o5 o6:Option D):Env:=[some (.lst .l (js.map jt)),some (dN .l td o),some (.int z),some (.lst .m (fs.map jt)),o4,o5,o6]
theorem co_step {td:List Str} {o:Str→Int} (h0:0≤z) (h1:z≤1000) {j:Jn} (ha:j.1∈td) (hb:j.2.1∈td) {fs:List Jn} (hf:fs.length≤10000) :
  Zv (CO js td o z fs (some (.str j.1)) (some (.str j.2.1)) (some (.int j.2.2)))=.nx (CO js td o z (fs++if coB o z j then [j] else []) (some (.str j.1)) (some (.str j.2.1)) (some (.int j.2.2))):=by
 have x1:=Jh5 (o:=o) ha
 have x2:=Jh5 (o:=o) hb
 have c1:=Jgj h0 h1 (o j.1+j.2.2 - o j.2.1)
 have hz:fs.length < sizeLine:=QS (by omega)
 have k1:kdL (.lst .m (fs.map jt))=true:=rfl
 have hfl:(fs.map jt).length=fs.length:=List.length_map _
 have ej:jt j=.tup [.str j.1,.str j.2.1,.int j.2.2]:=rfl
 unfold Zv coB CO
 by_cases h:cnt z (o j.1+j.2.2 - o j.2.1)=0
 ·rw[if_pos (by simp[h]),List.map_append,List.map_singleton,ej]
  generalize dN .l td o=DD at *
  generalize fs.map jt=FS at *
  generalize js.map jt=JS at *
  rw[h]at c1
  simp[x1,x2,c1,k1,lVar,hz,hfl]
 ·rw[if_neg (by simp[h]),List.append_nil]
  generalize dN .l td o=DD at *
  generalize fs.map jt=FS at *
  generalize js.map jt=JS at *
  simp[x1,x2,c1,h]
theorem v_lcoming {td:List Str} {o:Str→Int} (h0:0≤z) (h1:z≤1000) (ha:∀j∈js,j.1∈td) (hb:∀j∈js,j.2.1∈td) (hl:js.length≤1000) :
  Up [.lst .l (js.map jt),dN .l td o,.int z]=.ok (.lst .m ((js.filter (coB o z)).map jt)) []:=by
 have f1:=QD (f:=jt) (g:=JI 3 (Je (gSet 4) (Je (gSet 5) (Je (gSet 6) JL)))) (body:=Zv)
  (fun rest env=>∃(done:List Jn) (o4 o5 o6:Option D),env=CO js td o z (done.filter (coB o z)) o4 o5 o6∧done++rest=js)
  (fun x rest env ⟨done,o4,o5,o6,e,h2⟩=>by
   have hx:x∈js:=by rw[←h2];simp
   have hd:done.length≤10000:=by have:=congrArg List.length h2;simp at this;omega
   have:=List.length_filter_le (coB o z) done
   have k:=co_step (js:=js) (o:=o) h0 h1 (ha x hx) (hb x hx) (fs:=done.filter (coB o z)) (by omega)
   have he:(done++[x]).filter (coB o z)=done.filter (coB o z)++(if coB o z x then [x] else []):=by
    rw[List.filter_append]
    by_cases h:coB o z x=true<;>simp[List.filter,h]
   exact⟨_,_,by rw[e];rfl,k,done++[x],_,_,_,by rw[he],by rw[←h2];simp⟩)
  js (CO js td o z [] none none none) ⟨[],none,none,none,rfl,by simp⟩
 obtain⟨env',f2,done,o4,o5,o6,rfl,h2⟩:=f1
 rw[List.append_nil]at h2
 subst h2
 refine JN (env0:=[some (.lst .l (done.map jt)),some (dN .l td o),some (.int z),none,none,none,none]) (env:=(CO done td o z (done.filter (coB o z)) o4 o5 o6).set 3 none) ⟨rfl,by decide⟩ rfl ?_ (by rfl)
 unfold JaI
 have ij:=ZM done
 have src:JB (cVar 0) (CO done td o z [] none none none)=.ok (done.map jt) (CO done td o z [] none none none):=by
  unfold CO
  generalize done.map jt=JS at *
  simp[ij]
 refine Jk (env1:=CO done td o z [] none none none) (by unfold CO dN;simp) (Jk (env1:=CO done td o z (done.filter (coB o z)) o4 o5 o6) (by rw[JbO,src];exact f2) ?_)
 unfold CO
 generalize dN .l td o=DD at *
 generalize (done.filter (coB o z)).map jt=FS at *
 generalize done.map jt=JS at *
 simp
theorem JdU {xs ys:List D} {g g':Fl} (h1:imms xs=true) (h2:imms ys=true) (hz:xs.length+ys.length≤sizeLine):pAdd (.lst g xs) (.lst g' ys)=some (.lst .m (xs++ys)):=by
 have e:pAdd (.lst g xs) (.lst g' ys)=if imms xs && imms ys && decide (xs.length+ys.length≤sizeLine) then some (.lst .m (xs++ys)) else none:=by
  have h0:Jfq (.lst g xs) (.lst g' ys)=none:=rfl
  show orP2 Jfq (orP2 Jc9 (orP2 JdN JdS)) _ _=_
  have h:Jc9 (.lst g xs) (.lst g' ys)=if imms xs && imms ys && decide (xs.length+ys.length≤sizeLine) then some (.lst .m (xs++ys)) else none:=rfl
  unfold orP2
  rw[h0,Option.none_or,h,h1,h2,decide_eq_true hz];rfl
 rw[e,h1,h2,decide_eq_true hz];rfl
theorem eq_jts0 (js:List Jn):pEq (.lst .f (js.map jt)) (.lst .m [])=some (.bl js.isEmpty):=by
 unfold pEq
 have h:eqOk 40 (.lst .f (js.map jt))=true:=JcK 38 js
 have h2:eqOk 40 (.lst .m [])=true:=rfl
 rw[h,h2]
 cases js<;>rfl
theorem v_ltwin0 (T:Tp):YA [tp T,.lst .f []]=.ok (.tup [.lst .f [],.str "last", .ftu []]) [tp T,.lst .f []]:=by
 have p:pEq (.lst .f []) (.lst .m [])=some (.bl true):=rfl
 have i0:=Jhy T
 unfold YA JO Jas
 generalize tp T=A at *
 simp[YF,UZ,Yf,p]
theorem v_ltwin1 (T:Tp) (hl:js.length≤1000) (hne:js≠[]) :
  ∃(k:Nat) (j:Jn) (T':Tp),js[k]?=some j∧YA [tp T,.lst .f (js.map jt)]=.ok (.tup [.lst .f ((js++[(j.1,j.2.1,j.2.2+1)]).map jt),.str j.1,.tup [.tup [.int (k:Nat),.int 1],.tup [.int (js.length:Nat),.int (-1)]]]) [tp T',.lst .f (js.map jt)]:=by
 have hp:0 < js.length:=List.length_pos_iff.mpr hne
 have d1:=YJ T (m:=((js.length:Nat):Int)) (by omega) (by omega)
 have p1:=Zy (t:=T) (m:=((js.length:Nat):Int)) (by omega)
 have p2:=UA (t:=T) (m:=((js.length:Nat):Int)) (by omega)
 generalize drV T ((js.length:Nat):Int)=v at *
 generalize drT T ((js.length:Nat):Int)=T1 at *
 obtain⟨k,rfl⟩:=Int.eq_ofNat_of_zero_le p1
 have hk:k < js.length:=by omega
 obtain⟨j,hj⟩:∃j,js[k]?=some j:=⟨_,List.getElem?_eq_getElem hk⟩
 have ej:jt j=.tup [.str j.1,.str j.2.1,.int j.2.2]:=rfl
 refine⟨k,j,T1,hj,?_⟩
 have p:pEq (.lst .f (js.map jt)) (.lst .m [])=some (.bl false):=by rw[eq_jts0];cases js<;>simp at hne ⊢
 have a0:atI (js.map jt) (k:Int)=some (jt j):=by rw[Ze (by simpa using hk),List.getElem?_map,hj];rfl
 have ij:=ZM js
 have i0:=Jhy T
 have n1:=nol_tp T1
 have hz:js.length≤sizeLine:=Yh (by omega)
 have hz1:js.length+1≤sizeLine:=Yh (by omega)
 have hL:(js.map jt).length=js.length:=List.length_map _
 rw[List.map_append,List.map_singleton]
 have e2:jt (j.1,j.2.1,j.2.2+1)=.tup [.str j.1,.str j.2.1,.int (j.2.2+1)]:=rfl
 rw[e2]
 rw[ej]at a0
 clear hj ej e2 hk
 obtain⟨x,y,u⟩:=j
 dsimp only at *
 have ij2:imms [D.tup [.str x,.str y,.int (u+1)]]=true:=rfl
 have pa:pAdd (.lst .f (js.map jt)) (.lst .m [D.tup [.str x,.str y,.int (u+1)]])=some (.lst .m (js.map jt++[D.tup [.str x,.str y,.int (u+1)]])):=by
  exact JdU ij ij2 (by rw[List.length_map];exact hz1)
 have fx:fixs (js.map jt++[D.tup [.str x,.str y,.int (u+1)]])=js.map jt++[D.tup [.str x,.str y,.int (u+1)]]:=by
  have h:=Qz (f:=jt) (fun _=>rfl) (js++[(x,y,u+1)])
  rw[List.map_append]at h;exact h
 generalize js.map jt=JS at *
 generalize tp T=A at *
 generalize tp T1=A1 at *
 unfold YA JO Jas
 simp[YF,UZ,Yf,p,d1,i0,n1,a0,ij,hz,hz1,hL,pa,fx]
end
end VS
namespace VS
open PySem L2 SeqAt
abbrev Tr:=Int × Int × Str
def trD3 (x:Tr):D:=.tup [.int x.1,.int x.2.1,.str x.2.2]
@[simp] theorem imm_trD3 (x:Tr):(trD3 x).imm=true:=rfl
theorem JdX (xs:List Tr):imms (xs.map trD3)=true:=Ql imm_trD3 _
def TrS (js:List Jn) (met:List Str) (cur:Str) (x:Tr):Prop:=sdB (x.1,x.2.1)=true∧stp js (x.1,x.2.1) cur=some x.2.2∧(0≤x.1∧x.1 < js.length)∧x.2.2∉met
def SE (T:Tp) (dj:D) (a:Str) (w:List (Int × Int)) (met:List Str) (o5:Option D) (sm:List Tr) (o7 o8 o9 o10 o11 o12:Option D):Env :=
 [some (tp T),some dj,some (.str a),some (.lst .m (w.map pt)),some (.lst .m (met.map D.str)),o5,some (.lst .m (sm.map trD3)),o7,o8,o9,o10,o11,o12]
section
variable {js:List Jn} {a cur:Str} {dj:D} {w:List (Int × Int)} {met met0:List Str} {T:Tp}
theorem st_1 (hmet:met=met0++[cur]) (hml:met.length≤1000) {sm:List Tr} (hs:∀x∈sm,TrS js met cur x) (hsl:sm.length≤100000) {i:Nat} {j:Jn} (hij:js[i]?=some j) (hjl:js.length≤1000) {s:Int} (hss:s=1∨s=-1) (o5 o10 o11 o12:Option D) :
  ∃sm' p11 p12,Qd (SE T dj a w met o5 sm (some (.int (i:Nat))) (some (jt j)) (some (.int s)) o10 o11 o12)=.nx (SE T dj a w met o5 sm' (some (.int (i:Nat))) (some (jt j)) (some (.int s)) o10 p11 p12)∧(∀x∈sm',TrS js met cur x)∧sm'.length≤sm.length+1:=by
 have cut2:cutD [D.str j.1,.str j.2.1,.int j.2.2] none (some 2)=[.str j.1,.str j.2.1]:=rfl
 have hi:i < js.length:=(List.getElem?_eq_some_iff.mp hij).1
 obtain⟨u,v,es,est⟩:∃u v,QR (.tup [.str j.1,.str j.2.1]) (.int s)=some (.tup [.str u,.str v])∧stp js ((i:Int),s) cur=(if u=cur then some v else none):=by
  have hr:0≤(i:Int)∧(i:Int) < js.length:=⟨by omega,by omega⟩
  have eg:js[((i:Int)).toNat]?=some j:=by simpa using hij
  rcases hss with h | h
  ·refine⟨j.1,j.2.1,by subst h;rfl,?_⟩
   unfold stp;simp only;rw[if_pos hr,eg];simp only;rw[if_pos h]
  ·refine⟨j.2.1,j.1,by subst h;rfl,?_⟩
   unfold stp;simp only;rw[if_pos hr,eg];simp only;rw[if_neg (by omega),if_pos h]
 have s1:(sAsg (c2 QR (cSl (cVar 8) pNo (pAt (cK (.int 2)))) (cVar 9)) (JI 2 (Je (gSet 11) (Je (gSet 12) JL)))) (SE T dj a w met o5 sm (some (.int (i:Nat))) (some (jt j)) (some (.int s)) o10 o11 o12)=.nx (SE T dj a w met o5 sm (some (.int (i:Nat))) (some (jt j)) (some (.int s)) o10 (some (.str u)) (some (.str v))):=by
  have ej:jt j=.tup [.str j.1,.str j.2.1,.int j.2.2]:=rfl
  rw[ej]
  unfold SE
  generalize w.map pt=WW
  generalize met.map D.str=MM
  generalize sm.map trD3=SS
  simp[cut2,es]
 have q3:atI (met.map D.str) (-1)=some (.str cur):=by
  rw[hmet,List.map_append,List.map_cons,List.map_nil]
  exact ZB _ _
 have ni:=Jb6 .m v met
 have isM:=Zg met
 have tst:(Qk (cTt (c2 pEq (cVar 11) (cIdx (cVar 4) (c1 pNeg (cK (.int 1)))))) (cTt (c2 Uu (cVar 12) (cVar 4)))) (SE T dj a w met o5 sm (some (.int (i:Nat))) (some (jt j)) (some (.int s)) o10 (some (.str u)) (some (.str v)))=.ok (decide (u=cur) && !decide (v∈met)) (SE T dj a w met o5 sm (some (.int (i:Nat))) (some (jt j)) (some (.int s)) o10 (some (.str u)) (some (.str v))):=by
  unfold SE
  generalize w.map pt=WW
  generalize hMM:met.map D.str=MM at *
  generalize sm.map trD3=SS
  by_cases huc:u=cur
  ·by_cases hv:v∈met
   ·simp[q3,huc,ni,hv]
   ·simp[q3,huc,ni,hv]
  ·have hbe:(u == cur)=false:=by simpa using huc
   simp[q3,huc,hbe]
 unfold Qd
 cases ht:(decide (u=cur) && !decide (v∈met)) with
 | false =>
  rw[ht]at tst
  refine⟨sm,some (.str u),some (.str v),Jk s1 ?_,hs,by omega⟩
  rw[Jca,tst];rfl
 | true =>
  rw[ht]at tst
  simp only[Bool.and_eq_true,decide_eq_true_eq,Bool.not_eq_true',decide_eq_false_iff_not]at ht
  rw[if_pos ht.1]at est
  refine⟨sm++[((i:Int),s,v)],some (.str u),some (.str v),Jk s1 ?_,fun x hx=>?_,by simp⟩
  ·rw[Jca,tst]
   have hsz:sm.length < sizeLine:=QS (by omega)
   have e9:(sm++[((i:Int),s,v)]).map trD3=sm.map trD3++[.tup [.int i,.int s,.str v]]:=by simp[trD3]
   show (ZE _) _=_
   unfold SE
   rw[e9]
   generalize w.map pt=WW
   generalize met.map D.str=MM at *
   have hSS:(sm.map trD3).length < sizeLine:=by rw[List.length_map];exact hsz
   generalize sm.map trD3=SS at *
   simp[hSS]
  ·rcases List.mem_append.mp hx with z | z
   ·exact hs x z
   ·rw[List.mem_singleton.mp z]
    exact⟨by unfold sdB;rcases hss with h | h<;>simp[h],est,⟨by simp only;omega,by simp only;omega⟩,ht.2⟩
theorem st_all (hd:Hold jt js dj) (hmet:met=met0++[cur]) (hml:met.length≤1000) (hjl:js.length≤1000) (o5 o7 o8 o9 o10 o11 o12:Option D) :
  ∃sm p7 p8 p9 p11 p12,(sFor (Jbb (cVar 1)) (JI 2 (Je (gSet 7) (Je (gSet 8) JL))) Qf) (SE T dj a w met o5 [] o7 o8 o9 o10 o11 o12)=.nx (SE T dj a w met o5 sm p7 p8 p9 o10 p11 p12)∧(∀x∈sm,TrS js met cur x)∧sm.length≤2000:=by
 have hn:=Jfe jt 0 js
 obtain⟨env',k1,done,sm,p7,p8,p9,p11,p12,rfl,hk,hs,hl⟩:=QD (f:=fun p:Jn × Nat=>D.tup [.int (p.2:Nat),jt p.1]) (g:=JI 2 (Je (gSet 7) (Je (gSet 8) JL))) (body:=Qf)
  (P:=fun rest env=>∃done sm p7 p8 p9 p11 p12,env=SE T dj a w met o5 sm p7 p8 p9 o10 p11 p12∧done++rest=js.zipIdx 0∧(∀x∈sm,TrS js met cur x)∧sm.length≤2 * done.length)
  (fun x rest env ⟨done,sm,p7,p8,p9,p11,p12,e,hk,hs,hl⟩=>by
   subst e
   obtain⟨j,i⟩:=x
   have hm:(j,i)∈js.zipIdx 0:=by rw[←hk];simp
   have hij:js[i]?=some j:=by
    have:=List.mem_zipIdx_iff_getElem? (l:=js) (x:=(j,i))
    exact this.mp hm
   have hdl:done.length≤1000:=by
    have:=congrArg List.length hk
    simp at this;omega
   obtain⟨sm1,q11,q12,e1,hs1,hl1⟩:=st_1 (T:=T) (dj:=dj) (a:=a) (js:=js) hmet hml hs (by omega) hij hjl (s:=1) (.inl rfl) o5 o10 p11 p12
   obtain⟨sm2,r11,r12,e2,hs2,hl2⟩:=st_1 (T:=T) (dj:=dj) (a:=a) (js:=js) hmet hml hs1 (by omega) hij hjl (s:=-1) (.inr rfl) o5 o10 q11 q12
   refine⟨SE T dj a w met o5 sm (some (.int (i:Nat))) (some (jt j)) p9 o10 p11 p12,SE T dj a w met o5 sm2 (some (.int (i:Nat))) (some (jt j)) (some (.int (-1))) o10 r11 r12,rfl,?_,done++[(j,i)],sm2,_,_,_,_,_,rfl,by rw[←hk];simp,hs2,by simp;omega⟩
   unfold Qf
   have src:JB (cTup (Jb (cK (.int 1)) (Jb (c1 pNeg (cK (.int 1))) cNil))) (SE T dj a w met o5 sm (some (.int (i:Nat))) (some (jt j)) p9 o10 p11 p12)=.ok [.int 1,.int (-1)] (SE T dj a w met o5 sm (some (.int (i:Nat))) (some (jt j)) p9 o10 p11 p12):=rfl
   have z2:([D.int 1,.int (-1)]:List D).length≤sizeLine:=UY (by decide)
   have st1:UH (gSet 9) Qd [.int 1,.int (-1)] (SE T dj a w met o5 sm (some (.int (i:Nat))) (some (jt j)) p9 o10 p11 p12)=.nx (SE T dj a w met o5 sm2 (some (.int (i:Nat))) (some (jt j)) (some (.int (-1))) o10 r11 r12):=by
    rw[Ja4 (env1:=SE T dj a w met o5 sm (some (.int (i:Nat))) (some (jt j)) (some (.int 1)) o10 p11 p12) rfl e1,Ja4 (env1:=SE T dj a w met o5 sm1 (some (.int (i:Nat))) (some (jt j)) (some (.int (-1))) o10 q11 q12) rfl e2]
    rfl
   unfold sFor
   rw[src]
   simp only[z2,if_true,st1])
  (js.zipIdx 0) (SE T dj a w met o5 [] o7 o8 o9 o10 o11 o12) ⟨[],[],_,_,_,_,_,rfl,rfl,(fun _ z=>nomatch z),by simp⟩
 have hdl:done.length≤1000:=by
  have:=congrArg List.length hk
  simp at this;omega
 refine⟨sm,p7,p8,p9,p11,p12,?_,hs,by omega⟩
 have src:Jbb (cVar 1) (SE T dj a w met o5 [] o7 o8 o9 o10 o11 o12)=.ok ((js.zipIdx 0).map fun p=>D.tup [.int (p.2:Nat),jt p.1]) (SE T dj a w met o5 [] o7 o8 o9 o10 o11 o12):=by
  have ij:=ZM js
  unfold SE
  rw[←hn]
  cases hd<;>simp[ij]
 have hz:((js.zipIdx 0).map fun p:Jn × Nat=>D.tup [.int (p.2:Nat),jt p.1]).length≤sizeLine:=by
  rw[List.length_map,List.length_zipIdx];exact Yh (by omega)
 unfold sFor
 rw[src]
 simp only[hz,if_true,k1]
end
end VS
namespace VS
open PySem L2 SeqAt
section
variable {js:List Jn} {a cur:Str} {dj:D} {w:List (Int × Int)} {l:List Str} {T:Tp}
theorem JgN:∀{w:List (Int × Int)} {x:Str} {l l0:List Str} {cur e:Str} {p:Int × Int},wk js x w=some l→x::l=l0++[cur]→stp js p cur=some e→wk js x (w++[p])=some (l++[e])
 | [],x,l,l0,cur,e,p,h,hl,hp=>by
  rw[wk]at h;cases h
  cases l0 with
  | nil=>cases hl;rw[List.nil_append,wk,hp];rfl
  | cons y l0=>simp at hl
 | q::w,x,l,l0,cur,e,p,h,hl,hp=>by
  rw[wk]at h
  cases h1:stp js q x with
  | none=>rw[h1]at h;cases h
  | some y =>
   rw[h1]at h
   simp only at h
   cases h2:wk js y w with
   | none=>rw[h2]at h;cases h
   | some l2 =>
    rw[h2]at h
    cases h
    cases l0 with
    | nil=>simp at hl
    | cons z l0 =>
     have hl':y::l2=l0++[cur]:=by
      have:=congrArg List.tail hl
      simpa using this
     have ih:=JgN (p:=p) h2 hl' hp
     rw[List.cons_append,wk,h1]
     simp only[ih]
     rfl
theorem JiN (g:Fl) (xs:List Tr):pNe (.lst g (xs.map trD3)) (.lst .m [])=some (.bl (!xs.isEmpty)):=by
 have:∀xs:List Tr,eqOks 39 (xs.map trD3)=true:=fun xs=>by
  induction xs with
  | nil=>rfl
  | cons p w ih=>simp only[List.map_cons,eqOks,ih,Bool.and_true];rfl
 have h:eqOk 40 (.lst g (xs.map trD3))=true:=this xs
 have h2:eqOk 40 (.lst .m [])=true:=rfl
 unfold pNe
 rw[h,h2]
 cases xs<;>rfl
theorem Jip {xs:List Tr} {r:Int} (h0:0≤r) (h1:r < xs.length):∃x,x∈xs∧atI (xs.map trD3) r=some (trD3 x):=by
 obtain⟨x,m,_,e⟩:=Jdd (f:=trD3) h0 h1
 exact⟨x,m,e⟩
structure WSt (js:List Jn) (a:Str) (w:List (Int × Int)) (l:List Str):Prop where
 wk:wk js a w=some l
 sd:w.all sdB=true
 rg:∀p∈w,0≤p.1∧p.1 < js.length
 nd:(a::l).Nodup
theorem WSt.snoc (h:WSt js a w l) {l0:List Str} (hl:a::l=l0++[cur]) {x:Tr} (hx:TrS js (a::l) cur x):WSt js a (w++[(x.1,x.2.1)]) (l++[x.2.2]) :=
 ⟨JgN h.wk hl hx.2.1,by rw[List.all_append,h.sd];simp[hx.1],fun p hp=>by
  rcases List.mem_append.mp hp with z | z
  ·exact h.rg p z
  ·rw[List.mem_singleton.mp z];exact hx.2.2.1,by
  rw[←List.cons_append,List.nodup_append]
  refine⟨h.nd,by simp,fun y hy z hz e=>?_⟩
  rw[List.mem_singleton.mp hz]at e
  exact hx.2.2.2 (e ▸ hy)⟩
theorem st_turn (hd:Hold jt js dj) (hjl:js.length≤1000) (h:WSt js a w l) (hwl:w.length≤100) (o5:Option D) (sm0:Option D) (o7 o8 o9 o10 o11 o12:Option D) :
  ∃T' w' l' sm p7 p8 p9 p10 p11 p12,WSt js a w' l'∧w'.length≤w.length+1 ∧
   ZZ [some (tp T),some dj,some (.str a),some (.lst .m (w.map pt)),some (.lst .m ((a::l).map D.str)),o5,sm0,o7,o8,o9,o10,o11,o12]=.nx (SE T' dj a w' (a::l') o5 sm p7 p8 p9 p10 p11 p12):=by
 obtain⟨l0,cur,hl⟩:∃l0 c,a::l=l0++[c]:=by
  rcases List.eq_nil_or_concat (a::l) with h | ⟨l0,c,h⟩
  ·cases h
  ·exact⟨l0,c,by rw[h,List.concat_eq_append]⟩
 have hlen:=JcL h.wk
 have hml:(a::l).length≤1000:=by simp;omega
 obtain⟨sm,p7,p8,p9,p11,p12,e1,hs,hsl⟩:=st_all (T:=T) (a:=a) (w:=w) hd hl hml hjl o5 o7 o8 o9 o10 o11 o12
 have s0:(sAsg (cLst cNil) (gSet 6)) [some (tp T),some dj,some (.str a),some (.lst .m (w.map pt)),some (.lst .m ((a::l).map D.str)),o5,sm0,o7,o8,o9,o10,o11,o12]=.nx (SE T dj a w (a::l) o5 [] o7 o8 o9 o10 o11 o12):=rfl
 have hne:=JiN .m sm
 unfold ZZ
 cases hem:sm.isEmpty with
 | true =>
  rw[hem]at hne
  refine⟨T,w,l,sm,p7,p8,p9,o10,p11,p12,h,by omega,?_⟩
  refine Jk s0 (Jk e1 ?_)
  refine Jcp (env1:=SE T dj a w (a::l) o5 sm p7 p8 p9 o10 p11 p12) ?_ rfl
  unfold SE
  generalize sm.map trD3=SS at *
  simp[hne]
 | false =>
  rw[hem]at hne
  have hpos:0 < sm.length:=List.length_pos_iff.mpr (by intro z;rw[z]at hem;cases hem)
  have hsz:sm.length≤sizeLine:=Yh (by omega)
  have d1:=YJ T (m:=(sm.length:Int)) (by omega) (by omega)
  obtain⟨x,mx,g0⟩:=Jip (xs:=sm) (Zy (t:=T) (m:=(sm.length:Int)) (by omega)) (UA (by omega))
  generalize drT T (sm.length:Int)=T1 at *
  have s3:(sAsg (cImm (cIdx (cVar 6) (Jo Jf (aOw (cMv 0) (some 0) (aRo (cL pLen (Jb (cVar 6) cNil)) aNil))))) (gSet 10)) (SE T dj a w (a::l) o5 sm p7 p8 p9 o10 p11 p12)=.nx (SE T1 dj a w (a::l) o5 sm p7 p8 p9 (some (trD3 x)) p11 p12):=by
   have hSl:(sm.map trD3).length=sm.length:=List.length_map _
   have hmm:(trD3 x).imm=true:=rfl
   unfold SE
   generalize trD3 x=X0 at *
   generalize w.map pt=WW
   generalize (a::l).map D.str=MM
   generalize sm.map trD3=SS at *
   have hSz:SS.length≤sizeLine:=by rw[hSl];exact hsz
   simp[hSl,hSz,hsz,d1,g0,hmm]
  have hx:=hs x mx
  have w2:=h.snoc hl hx
  have hwz:w.length < sizeLine:=QS (by omega)
  have hmz:(a::l).length < sizeLine:=QS (by omega)
  have ex:trD3 x=.tup [.int x.1,.int x.2.1,.str x.2.2]:=rfl
  have a2:atI [D.int x.1,.int x.2.1,.str x.2.2] 2=some (.str x.2.2):=rfl
  have c2':cutD [D.int x.1,.int x.2.1,.str x.2.2] none (some 2)=[.int x.1,.int x.2.1]:=rfl
  have ew:(w++[(x.1,x.2.1)]).map pt=w.map pt++[.tup [.int x.1,.int x.2.1]]:=by simp[pt]
  have em:(a::(l++[x.2.2])).map D.str=(a::l).map D.str++[.str x.2.2]:=by simp
  have s5:(ZE (cMut 3 kdL Uc (lVar 3) (Jb (cSl (cVar 10) pNo (pAt (cK (.int 2)))) cNil))) (SE T1 dj a w (a::l) o5 sm p7 p8 p9 (some (trD3 x)) p11 p12)=.nx (SE T1 dj a (w++[(x.1,x.2.1)]) (a::l) o5 sm p7 p8 p9 (some (trD3 x)) p11 p12):=by
   unfold SE
   rw[ex,ew]
   have hWl:(w.map pt).length < sizeLine:=by rw[List.length_map];exact hwz
   generalize w.map pt=WW at *
   generalize (a::l).map D.str=MM
   generalize sm.map trD3=SS
   simp[c2',hWl]
  have s6:(ZE (cMut 4 kdL Uc (lVar 4) (Jb (cImm (cIdx (cVar 10) (cK (.int 2)))) cNil))) (SE T1 dj a (w++[(x.1,x.2.1)]) (a::l) o5 sm p7 p8 p9 (some (trD3 x)) p11 p12)=.nx (SE T1 dj a (w++[(x.1,x.2.1)]) (a::(l++[x.2.2])) o5 sm p7 p8 p9 (some (trD3 x)) p11 p12):=by
   unfold SE
   rw[ex,em]
   have hMl:((a::l).map D.str).length < sizeLine:=by rw[List.length_map];exact hmz
   generalize (w++[(x.1,x.2.1)]).map pt=WW at *
   generalize (a::l).map D.str=MM at *
   generalize sm.map trD3=SS
   simp[a2,hMl]
  have hyes:(cTt (c2 pNe (cVar 6) (cLst cNil))) (SE T dj a w (a::l) o5 sm p7 p8 p9 o10 p11 p12)=.ok true (SE T dj a w (a::l) o5 sm p7 p8 p9 o10 p11 p12):=by
   unfold SE
   generalize sm.map trD3=SS at *
   simp[hne]
  exact⟨T1,w++[(x.1,x.2.1)],l++[x.2.2],sm,p7,p8,p9,some (trD3 x),p11,p12,w2,by simp,Jk s0 (Jk e1 (Jcb hyes (Jk s3 (Jk s5 s6))))⟩
theorem v_lstraight (hd:Hold jt js dj) (hjl:js.length≤1000) (T:Tp):∃w l b T',UT [tp T,dj,.str a]=.ok (.tup [.tup (w.map pt),.str b]) [tp T']∧WSt js a w l∧w.length≤8∧(a::l).getLast?=some b:=by
 have run:=QD (f:=fun i:Nat=>D.int i) (g:=gSet 5) (body:=ZZ)
  (fun rest env=>∃T w l o5 o6 o7 o8 o9 o10 o11 o12,env=[some (tp T),some dj,some (.str a),some (.lst .m (w.map pt)),some (.lst .m ((a::l).map D.str)),o5,o6,o7,o8,o9,o10,o11,o12]∧WSt js a w l∧w.length+rest.length≤8)
  (fun k rest env ⟨T,w,l,o5,o6,o7,o8,o9,o10,o11,o12,e,h,hl⟩=>by
   subst e
   simp only[List.length_cons]at hl
   obtain⟨T',w',l',sm,p7,p8,p9,p10,p11,p12,h',hl',e⟩:=st_turn (T:=T) hd hjl h (by omega) (some (.int (k:Nat))) o6 o7 o8 o9 o10 o11 o12
   exact⟨[some (tp T),some dj,some (.str a),some (.lst .m (w.map pt)),some (.lst .m ((a::l).map D.str)),some (.int (k:Nat)),o6,o7,o8,o9,o10,o11,o12],_,rfl,e,T',w',l',_,_,_,_,_,_,_,_,rfl,h',by omega⟩)
  (List.range 8) [some (tp T),some dj,some (.str a),some (.lst .m []),some (.lst .m [.str a]),none,none,none,none,none,none,none,none] ⟨T,[],[],none,none,none,none,none,none,none,none,rfl,⟨rfl,rfl,(fun _ z=>nomatch z),by simp⟩,by simp⟩
 have hr:ZP [.int 8]=some ((List.range 8).map fun i:Nat=>D.int (i:Nat)):=JcY 8 (by decide) (by decide)
 have s0:(sPar 3 4 (Jb (cLst cNil) (Jb (cLst (Jb (cImm (cVar 2)) cNil)) cNil))) [some (tp T),some dj,some (.str a),none,none,none,none,none,none,none,none,none,none]=.nx [some (tp T),some dj,some (.str a),some (.lst .m []),some (.lst .m [.str a]),none,none,none,none,none,none,none,none]:=rfl
 have src:ZH (Jb (cK (.int 8)) cNil) [some (tp T),some dj,some (.str a),some (.lst .m []),some (.lst .m [.str a]),none,none,none,none,none,none,none,none]=.ok ((List.range 8).map fun i:Nat=>D.int (i:Nat)) [some (tp T),some dj,some (.str a),some (.lst .m []),some (.lst .m [.str a]),none,none,none,none,none,none,none,none]:=by
  simp[hr]
 obtain⟨env',k1,T',w,l,o5,o6,o7,o8,o9,o10,o11,o12,rfl,h,hl⟩:=run
 obtain⟨l0,b,hb⟩:∃l0 c,a::l=l0++[c]:=by
  rcases List.eq_nil_or_concat (a::l) with h | ⟨l0,c,h⟩
  ·cases h
  ·exact⟨l0,c,by rw[h,List.concat_eq_append]⟩
 have q3:atI ((a::l).map D.str) (-1)=some (.str b):=by
  rw[hb,List.map_append,List.map_cons,List.map_nil]
  exact ZB _ _
 refine⟨w,l,b,T',?_,h,by simpa using hl,by rw[hb,List.getLast?_concat]⟩
 refine JN (env0:=[some (tp T),some dj,some (.str a),none,none,none,none,none,none,none,none,none,none]) (env:=[some (tp T'),some dj,some (.str a),some (.lst .m (w.map pt)),some (.lst .m ((a::l).map D.str)),o5,o6,o7,o8,o9,o10,o11,o12]) ⟨rfl,by decide⟩ rfl ?_ rfl
 unfold Jbe
 refine Jk s0 (Jk (env1:=[some (tp T'),some dj,some (.str a),some (.lst .m (w.map pt)),some (.lst .m ((a::l).map D.str)),o5,o6,o7,o8,o9,o10,o11,o12]) ?_ ?_)
 ·unfold sFor;rw[src];exact k1
 ·have ip:=ZO w
  generalize w.map pt=WW at *
  generalize (a::l).map D.str=MM at *
  simp[ip,q3]
theorem WSt.okW {b:Str} (h:WSt js a w l) (hb:(a::l).getLast?=some b):okW js a w b=true:=by
 unfold VS.okW okR
 rw[h.wk]
 exact decide_eq_true ⟨h.nd,hb⟩
end
end VS
namespace VS
open PySem L2 SeqAt
def TrR (js:List Jn) (x:Tr):Prop:=(0≤x.1∧x.1 < js.length)∧(x.2.1=1∨x.2.1=-1)
def RE (T:Tp) (dj:D) (a:Str) (w:List (Int × Int)) (met:List Str) (o5:Option D) (sm:List Tr) (o7 o8 o9 o10 o11 o13 o14:Option D):Env :=
 [some (tp T),some dj,some (.str a),some (.lst .m (w.map pt)),some (.lst .m (met.map D.str)),o5,some (.lst .m (sm.map trD3)),o7,o8,o9,o10,o11,none,o13,o14,none]
section
variable {js:List Jn} {a cur:Str} {dj:D} {w:List (Int × Int)} {met met0:List Str} {T:Tp}
theorem nin_ints (g:Fl) (k:Int) (xs:List Int):∃v,Uu (.int k) (.lst g (xs.map D.int))=some (.bl v):=by
 have e1:∀xs:List Int,eqOks 40 (xs.map D.int)=true:=fun xs=>by
  induction xs with
  | nil=>rfl
  | cons x xs ih=>rw[List.map_cons,eqOks,ih];rfl
 refine⟨!((xs.map D.int).any fun d=>pyEq d (.int k)),?_⟩
 show (if eqOk 40 (.int k) && eqOks 40 (xs.map D.int) then some ((xs.map D.int).any fun d=>pyEq d (.int k)) else none).map (fun b=>D.bl (!b))=_
 rw[e1];rfl
theorem cut_tail9:∀xs:List D,cutD xs (some 1) none=xs.tail
 | []=>rfl
 | x::xs=>by
  have h1:HT.sIx (xs.length+1) 0 (some 1)=1:=by unfold HT.sIx;simp
  have h2:HT.sIx (xs.length+1) (xs.length+1) none=xs.length+1:=by unfold HT.sIx;rfl
  unfold cutD;simp[h1,h2]
theorem rd_1 (hmet:met=met0++[cur]) (hml:met.length≤1000) (hwl:w.length≤1000) {sm:List Tr} (hs:∀x∈sm,TrR js x) (hsl:sm.length≤100000) {i:Nat} {j:Jn} (hij:js[i]?=some j) (hjl:js.length≤1000) {s:Int} (hss:s=1∨s=-1) (o5 o7 o11 o13 o14:Option D) :
  ∃sm' p13 p14,QU (RE T dj a w met o5 sm o7 (some (.int (i:Nat))) (some (jt j)) (some (.int s)) o11 o13 o14)=.nx (RE T dj a w met o5 sm' o7 (some (.int (i:Nat))) (some (jt j)) (some (.int s)) o11 p13 p14)∧(∀x∈sm',TrR js x)∧sm'.length≤sm.length+1:=by
 have cut2:cutD [D.str j.1,.str j.2.1,.int j.2.2] none (some 2)=[.str j.1,.str j.2.1]:=rfl
 have hi:i < js.length:=(List.getElem?_eq_some_iff.mp hij).1
 obtain⟨u,v,es⟩:∃u v,QR (.tup [.str j.1,.str j.2.1]) (.int s)=some (.tup [.str u,.str v]):=by
  rcases hss with h | h
  ·exact⟨j.1,j.2.1,by subst h;rfl⟩
  ·exact⟨j.2.1,j.1,by subst h;rfl⟩
 have s1:(sAsg (c2 QR (cSl (cVar 9) pNo (pAt (cK (.int 2)))) (cVar 10)) (JI 2 (Je (gSet 13) (Je (gSet 14) JL)))) (RE T dj a w met o5 sm o7 (some (.int (i:Nat))) (some (jt j)) (some (.int s)) o11 o13 o14)=.nx (RE T dj a w met o5 sm o7 (some (.int (i:Nat))) (some (jt j)) (some (.int s)) o11 (some (.str u)) (some (.str v))):=by
  have ej:jt j=.tup [.str j.1,.str j.2.1,.int j.2.2]:=rfl
  rw[ej]
  unfold RE
  generalize w.map pt=WW
  generalize met.map D.str=MM
  generalize sm.map trD3=SS
  simp[cut2,es]
 have q3:atI (met.map D.str) (-1)=some (.str cur):=by
  rw[hmet,List.map_append,List.map_cons,List.map_nil]
  exact ZB _ _
 have ct:cutD (met.map D.str) (some 1) none=met.tail.map D.str:=by
  rw[cut_tail9,List.map_tail]
 have ni:=Jb6 .m v met.tail
 have isM:=Zg met
 obtain⟨nv,hnv⟩:=nin_ints .m (i:Int) (w.map (·.1))
 have hz:w.length≤sizeLine:=Yh (by omega)
 have lcv:(cLc (JB (cVar 3)) [15] (gSet 15) cYes (cImm (cIdx (cVar 15) (cK (.int 0))))) (RE T dj a w met o5 sm o7 (some (.int (i:Nat))) (some (jt j)) (some (.int s)) o11 (some (.str u)) (some (.str v)))=.ok (.lst .m ((w.map (·.1)).map D.int)) (RE T dj a w met o5 sm o7 (some (.int (i:Nat))) (some (jt j)) (some (.int s)) o11 (some (.str u)) (some (.str v))):=by
  have src:JB (cVar 3) (RE T dj a w met o5 sm o7 (some (.int (i:Nat))) (some (jt j)) (some (.int s)) o11 (some (.str u)) (some (.str v)))=.ok (w.map pt) (RE T dj a w met o5 sm o7 (some (.int (i:Nat))) (some (jt j)) (some (.int s)) o11 (some (.str u)) (some (.str v))):=by
   have ip:=ZO w
   unfold RE
   generalize w.map pt=WW at *
   simp[ip]
  have lc:=Jbx (f:=pt) (vs:=[15]) (g:=gSet 15) (ce:=cImm (cIdx (cVar 15) (cK (.int 0)))) (env:=RE T dj a w met o5 sm o7 (some (.int (i:Nat))) (some (jt j)) (some (.int s)) o11 (some (.str u)) (some (.str v))) (y:=fun p=>.int p.1) (xs:=w) fun p hp=>⟨(RE T dj a w met o5 sm o7 (some (.int (i:Nat))) (some (jt j)) (some (.int s)) o11 (some (.str u)) (some (.str v))).set 15 (some (pt p)),rfl,rfl,rfl,rfl⟩
  have em:w.map (fun p=>D.int p.1)=(w.map (·.1)).map D.int:=by rw[List.map_map];rfl
  rw[em]at lc
  have wp:Ur (RE T dj a w met o5 sm o7 (some (.int (i:Nat))) (some (jt j)) (some (.int s)) o11 (some (.str u)) (some (.str v))) [15]=RE T dj a w met o5 sm o7 (some (.int (i:Nat))) (some (jt j)) (some (.int s)) o11 (some (.str u)) (some (.str v)):=rfl
  have cl:ZX (RE T dj a w met o5 sm o7 (some (.int (i:Nat))) (some (jt j)) (some (.int s)) o11 (some (.str u)) (some (.str v))) [15]=true:=rfl
  have bk:Qb (RE T dj a w met o5 sm o7 (some (.int (i:Nat))) (some (jt j)) (some (.int s)) o11 (some (.str u)) (some (.str v))) (RE T dj a w met o5 sm o7 (some (.int (i:Nat))) (some (jt j)) (some (.int s)) o11 (some (.str u)) (some (.str v))) [15]=RE T dj a w met o5 sm o7 (some (.int (i:Nat))) (some (jt j)) (some (.int s)) o11 (some (.str u)) (some (.str v)):=rfl
  have hzz:(w.map pt).length≤sizeLine:=by rw[List.length_map];exact hz
  simp only[e_lc,src,R.bind,cl,hzz,and_self,if_true,wp,lc,bk]
 have c8:cVar 8 (RE T dj a w met o5 sm o7 (some (.int (i:Nat))) (some (jt j)) (some (.int s)) o11 (some (.str u)) (some (.str v)))=.ok (.int (i:Nat)) (RE T dj a w met o5 sm o7 (some (.int (i:Nat))) (some (jt j)) (some (.int s)) o11 (some (.str u)) (some (.str v))):=by
  unfold RE
  generalize w.map pt=WW
  generalize met.map D.str=MM
  generalize sm.map trD3=SS
  simp
 have tC:(cTt (c2 Uu (cVar 8) (cLc (JB (cVar 3)) [15] (gSet 15) cYes (cImm (cIdx (cVar 15) (cK (.int 0))))))) (RE T dj a w met o5 sm o7 (some (.int (i:Nat))) (some (jt j)) (some (.int s)) o11 (some (.str u)) (some (.str v)))=.ok nv (RE T dj a w met o5 sm o7 (some (.int (i:Nat))) (some (jt j)) (some (.int s)) o11 (some (.str u)) (some (.str v))):=by
  generalize RE T dj a w met o5 sm o7 (some (.int (i:Nat))) (some (jt j)) (some (.int s)) o11 (some (.str u)) (some (.str v))=E at *
  generalize cLc (JB (cVar 3)) [15] (gSet 15) cYes (cImm (cIdx (cVar 15) (cK (.int 0))))=C at *
  generalize (w.map (·.1)).map D.int=XX at *
  generalize cVar 8=C8 at *
  simp[c8,lcv,hnv]
 have tA:(cTt (c2 pEq (cVar 13) (cIdx (cVar 4) (c1 pNeg (cK (.int 1)))))) (RE T dj a w met o5 sm o7 (some (.int (i:Nat))) (some (jt j)) (some (.int s)) o11 (some (.str u)) (some (.str v)))=.ok (u == cur) (RE T dj a w met o5 sm o7 (some (.int (i:Nat))) (some (jt j)) (some (.int s)) o11 (some (.str u)) (some (.str v))):=by
  unfold RE
  generalize w.map pt=WW
  generalize hMM:met.map D.str=MM at *
  generalize sm.map trD3=SS
  simp[q3]
 have tB:(cTt (c2 Uu (cVar 14) (cSl (cVar 4) (pAt (cK (.int 1))) pNo))) (RE T dj a w met o5 sm o7 (some (.int (i:Nat))) (some (jt j)) (some (.int s)) o11 (some (.str u)) (some (.str v)))=.ok (!decide (v∈met.tail)) (RE T dj a w met o5 sm o7 (some (.int (i:Nat))) (some (jt j)) (some (.int s)) o11 (some (.str u)) (some (.str v))):=by
  unfold RE
  generalize w.map pt=WW
  generalize hMM:met.map D.str=MM at *
  generalize met.tail.map D.str=MT at *
  generalize sm.map trD3=SS
  simp[ct,ni,isM]
 have tst:∃t,(Qk (cTt (c2 pEq (cVar 13) (cIdx (cVar 4) (c1 pNeg (cK (.int 1)))))) (Qk (cTt (c2 Uu (cVar 14) (cSl (cVar 4) (pAt (cK (.int 1))) pNo))) (cTt (c2 Uu (cVar 8) (cLc (JB (cVar 3)) [15] (gSet 15) cYes (cImm (cIdx (cVar 15) (cK (.int 0))))))))) (RE T dj a w met o5 sm o7 (some (.int (i:Nat))) (some (jt j)) (some (.int s)) o11 (some (.str u)) (some (.str v)))=.ok t (RE T dj a w met o5 sm o7 (some (.int (i:Nat))) (some (jt j)) (some (.int s)) o11 (some (.str u)) (some (.str v))):=by
  generalize RE T dj a w met o5 sm o7 (some (.int (i:Nat))) (some (jt j)) (some (.int s)) o11 (some (.str u)) (some (.str v))=E at *
  unfold Qk
  rw[tA]
  generalize (u == cur)=b1
  generalize (!decide (v∈met.tail))=b2 at *
  cases b1
  ·exact⟨_,rfl⟩
  ·cases b2
   ·exact⟨false,by simp only[R.bind,tB];rfl⟩
   ·exact⟨nv,by simp only[R.bind,tB];exact tC⟩
 obtain⟨t,tst⟩:=tst
 unfold QU
 cases t with
 | false =>
  refine⟨sm,some (.str u),some (.str v),Jk s1 ?_,hs,by omega⟩
  rw[Jca,tst];rfl
 | true =>
  refine⟨sm++[((i:Int),s,v)],some (.str u),some (.str v),Jk s1 ?_,fun x hx=>?_,by simp⟩
  ·rw[Jca,tst]
   have hsz:sm.length < sizeLine:=QS (by omega)
   have e9:(sm++[((i:Int),s,v)]).map trD3=sm.map trD3++[.tup [.int i,.int s,.str v]]:=by simp[trD3]
   show (ZE _) _=_
   unfold RE
   rw[e9]
   generalize w.map pt=WW
   generalize met.map D.str=MM at *
   have hSS:(sm.map trD3).length < sizeLine:=by rw[List.length_map];exact hsz
   generalize sm.map trD3=SS at *
   simp[hSS]
  ·rcases List.mem_append.mp hx with z | z
   ·exact hs x z
   ·rw[List.mem_singleton.mp z]
    exact⟨⟨by simp only;omega,by simp only;omega⟩,hss⟩
end
end VS
namespace VS
open PySem L2 SeqAt
section
variable {js:List Jn} {a cur:Str} {dj:D} {w:List (Int × Int)} {met met0:List Str} {T:Tp}
theorem rd_all (hd:Hold jt js dj) (hmet:met=met0++[cur]) (hml:met.length≤1000) (hwl:w.length≤1000) (hjl:js.length≤1000) (o5 o7 o8 o9 o10 o11 o13 o14:Option D) :
  ∃sm p8 p9 p10 p13 p14,(sFor (Jbb (cVar 1)) (JI 2 (Je (gSet 8) (Je (gSet 9) JL))) QO) (RE T dj a w met o5 [] o7 o8 o9 o10 o11 o13 o14)=.nx (RE T dj a w met o5 sm o7 p8 p9 p10 o11 p13 p14)∧(∀x∈sm,TrR js x)∧sm.length≤2000:=by
 have hn:=Jfe jt 0 js
 obtain⟨env',k1,done,sm,p8,p9,p10,p13,p14,rfl,hk,hs,hl⟩:=QD (f:=fun p:Jn × Nat=>D.tup [.int (p.2:Nat),jt p.1]) (g:=JI 2 (Je (gSet 8) (Je (gSet 9) JL))) (body:=QO)
  (P:=fun rest env=>∃done sm p8 p9 p10 p13 p14,env=RE T dj a w met o5 sm o7 p8 p9 p10 o11 p13 p14∧done++rest=js.zipIdx 0∧(∀x∈sm,TrR js x)∧sm.length≤2 * done.length)
  (fun x rest env ⟨done,sm,p8,p9,p10,p13,p14,e,hk,hs,hl⟩=>by
   subst e
   obtain⟨j,i⟩:=x
   have hm:(j,i)∈js.zipIdx 0:=by rw[←hk];simp
   have hij:js[i]?=some j:=by
    have:=List.mem_zipIdx_iff_getElem? (l:=js) (x:=(j,i))
    exact this.mp hm
   have hdl:done.length≤1000:=by
    have:=congrArg List.length hk
    simp at this;omega
   obtain⟨sm1,q13,q14,e1,hs1,hl1⟩:=rd_1 (T:=T) (dj:=dj) (a:=a) (js:=js) hmet hml hwl hs (by omega) hij hjl (s:=1) (.inl rfl) o5 o7 o11 p13 p14
   obtain⟨sm2,r13,r14,e2,hs2,hl2⟩:=rd_1 (T:=T) (dj:=dj) (a:=a) (js:=js) hmet hml hwl hs1 (by omega) hij hjl (s:=-1) (.inr rfl) o5 o7 o11 q13 q14
   refine⟨RE T dj a w met o5 sm o7 (some (.int (i:Nat))) (some (jt j)) p10 o11 p13 p14,RE T dj a w met o5 sm2 o7 (some (.int (i:Nat))) (some (jt j)) (some (.int (-1))) o11 r13 r14,rfl,?_,done++[(j,i)],sm2,_,_,_,_,_,rfl,by rw[←hk];simp,hs2,by simp;omega⟩
   unfold QO
   have src:JB (cTup (Jb (cK (.int 1)) (Jb (c1 pNeg (cK (.int 1))) cNil))) (RE T dj a w met o5 sm o7 (some (.int (i:Nat))) (some (jt j)) p10 o11 p13 p14)=.ok [.int 1,.int (-1)] (RE T dj a w met o5 sm o7 (some (.int (i:Nat))) (some (jt j)) p10 o11 p13 p14):=rfl
   have z2:([D.int 1,.int (-1)]:List D).length≤sizeLine:=UY (by decide)
   have st1:UH (gSet 10) QU [.int 1,.int (-1)] (RE T dj a w met o5 sm o7 (some (.int (i:Nat))) (some (jt j)) p10 o11 p13 p14)=.nx (RE T dj a w met o5 sm2 o7 (some (.int (i:Nat))) (some (jt j)) (some (.int (-1))) o11 r13 r14):=by
    rw[Ja4 (env1:=RE T dj a w met o5 sm o7 (some (.int (i:Nat))) (some (jt j)) (some (.int 1)) o11 p13 p14) rfl e1,Ja4 (env1:=RE T dj a w met o5 sm1 o7 (some (.int (i:Nat))) (some (jt j)) (some (.int (-1))) o11 q13 q14) rfl e2]
    rfl
   unfold sFor
   rw[src]
   simp only[z2,if_true,st1])
  (js.zipIdx 0) (RE T dj a w met o5 [] o7 o8 o9 o10 o11 o13 o14) ⟨[],[],_,_,_,_,_,rfl,rfl,(fun _ z=>nomatch z),by simp⟩
 have hdl:done.length≤1000:=by
  have:=congrArg List.length hk
  simp at this;omega
 refine⟨sm,p8,p9,p10,p13,p14,?_,hs,by omega⟩
 have src:Jbb (cVar 1) (RE T dj a w met o5 [] o7 o8 o9 o10 o11 o13 o14)=.ok ((js.zipIdx 0).map fun p=>D.tup [.int (p.2:Nat),jt p.1]) (RE T dj a w met o5 [] o7 o8 o9 o10 o11 o13 o14):=by
  have ij:=ZM js
  unfold RE
  rw[←hn]
  cases hd<;>simp[ij]
 have hz:((js.zipIdx 0).map fun p:Jn × Nat=>D.tup [.int (p.2:Nat),jt p.1]).length≤sizeLine:=by
  rw[List.length_map,List.length_zipIdx];exact Yh (by omega)
 unfold sFor
 rw[src]
 simp only[hz,if_true,k1]
def SmW (js:List Jn) (w:List (Int × Int)):Prop:=∀p∈w,(0≤p.1∧p.1 < js.length)∧(p.2=1∨p.2=-1)
theorem rd_turn (hd:Hold jt js dj) (hjl:js.length≤1000) (h:SmW js w) (hwl:w.length≤100) (hml:met.length≤100) (hmp:met≠[]) (o5:Option D) (sm0:Option D) (o7 o8 o9 o10 o11 o13 o14:Option D) :
  ∃T' w' met' sm p7 p8 p9 p10 p11 p13 p14,SmW js w'∧w'.length≤w.length+1∧met'.length≤met.length+1∧met'≠[] ∧
   QN [some (tp T),some dj,some (.str a),some (.lst .m (w.map pt)),some (.lst .m (met.map D.str)),o5,sm0,o7,o8,o9,o10,o11,none,o13,o14,none]=.nx (RE T' dj a w' met' o5 sm p7 p8 p9 p10 p11 p13 p14):=by
 obtain⟨l0,cur,hl⟩:∃l0 c,met=l0++[c]:=by
  rcases List.eq_nil_or_concat met with h | ⟨l0,c,h⟩
  ·exact absurd h hmp
  ·exact⟨l0,c,by rw[h,List.concat_eq_append]⟩
 obtain⟨sm,p8,p9,p10,p13,p14,e1,hs,hsl⟩:=rd_all (T:=T) (a:=a) (w:=w) hd hl (by omega) (by omega) hjl o5 o7 o8 o9 o10 o11 o13 o14
 have s0:(sAsg (cLst cNil) (gSet 6)) [some (tp T),some dj,some (.str a),some (.lst .m (w.map pt)),some (.lst .m (met.map D.str)),o5,sm0,o7,o8,o9,o10,o11,none,o13,o14,none]=.nx (RE T dj a w met o5 [] o7 o8 o9 o10 o11 o13 o14):=rfl
 have hne:=JiN .m sm
 have hsz:sm.length≤sizeLine:=Yh (by omega)
 unfold QN
 let hm:=sm.filter fun x=>decide (x.2.2=a)
 have hml2:hm.length≤sm.length:=List.length_filter_le _ _
 have lc:=JbX (f:=trD3) (vs:=[12]) (g:=gSet 12) (ct:=cTt (c2 pEq (cIdx (cVar 12) (cK (.int 2))) (cVar 2))) (ce:=cGet 12) (env:=RE T dj a w met o5 sm o7 p8 p9 p10 o11 p13 p14) (y:=trD3) (t:=fun x=>decide (x.2.2=a)) (xs:=sm) fun x hx=>⟨(RE T dj a w met o5 sm o7 p8 p9 p10 o11 p13 p14).set 12 (some (trD3 x)),rfl,rfl,by
  have ex:trD3 x=.tup [.int x.1,.int x.2.1,.str x.2.2]:=rfl
  have a2:atI [D.int x.1,.int x.2.1,.str x.2.2] 2=some (.str x.2.2):=rfl
  unfold RE
  rw[ex]
  generalize sm.map trD3=SS
  generalize w.map pt=WW
  generalize met.map D.str=MM
  by_cases hxa:x.2.2=a
  ·simp[a2,hxa]
  ·have hbe:(x.2.2 == a)=false:=by simpa using hxa
   simp[a2,hxa,hbe],fun _=>rfl,rfl⟩
 have s2:(sAsg (cLc (JB (cVar 6)) [12] (gSet 12) (cTt (c2 pEq (cIdx (cVar 12) (cK (.int 2))) (cVar 2))) (cGet 12)) (gSet 7)) (RE T dj a w met o5 sm o7 p8 p9 p10 o11 p13 p14)=.nx (RE T dj a w met o5 sm (some (.lst .m (hm.map trD3))) p8 p9 p10 o11 p13 p14):=by
  have src:JB (cVar 6) (RE T dj a w met o5 sm o7 p8 p9 p10 o11 p13 p14)=.ok (sm.map trD3) (RE T dj a w met o5 sm o7 p8 p9 p10 o11 p13 p14):=by
   have ip:=JdX sm
   unfold RE
   generalize sm.map trD3=SS at *
   simp[ip]
  have wp:Ur (RE T dj a w met o5 sm o7 p8 p9 p10 o11 p13 p14) [12]=RE T dj a w met o5 sm o7 p8 p9 p10 o11 p13 p14:=rfl
  have cl:ZX (RE T dj a w met o5 sm o7 p8 p9 p10 o11 p13 p14) [12]=true:=rfl
  have bk:Qb (RE T dj a w met o5 sm o7 p8 p9 p10 o11 p13 p14) (RE T dj a w met o5 sm o7 p8 p9 p10 o11 p13 p14) [12]=RE T dj a w met o5 sm o7 p8 p9 p10 o11 p13 p14:=rfl
  have hzz:(sm.map trD3).length≤sizeLine:=by rw[List.length_map];exact hsz
  unfold sAsg
  simp only[e_lc,src,R.bind,cl,hzz,and_self,if_true,wp,lc,bk]
  rfl
 have q3:atI (met.map D.str) (-1)=some (.str cur):=by
  rw[hl,List.map_append,List.map_cons,List.map_nil]
  exact ZB _ _
 have hMz:met.length≤sizeLine:=Yh (by omega)
 have tst:∃t:Bool,(Qk (cTt (c2 pNe (cVar 6) (cLst cNil))) (tcOr (cTt (c2 pEq (cL pLen (Jb (cVar 4) cNil)) (cK (.int 1)))) (cTt (c2 pNe (cIdx (cVar 4) (c1 pNeg (cK (.int 1)))) (cVar 2))))) (RE T dj a w met o5 sm (some (.lst .m (hm.map trD3))) p8 p9 p10 o11 p13 p14)=.ok t (RE T dj a w met o5 sm (some (.lst .m (hm.map trD3))) p8 p9 p10 o11 p13 p14)∧(t=true→sm.isEmpty=false):=by
  refine⟨!sm.isEmpty && (decide ((met.length:Int)=1) || !(cur == a)),?_,fun h=>by simp at h;simpa using h.1⟩
  have hMl:(met.map D.str).length=met.length:=List.length_map _
  unfold RE
  generalize w.map pt=WW
  generalize hm.map trD3=HH
  generalize met.map D.str=MM at *
  generalize sm.map trD3=SS at *
  have hMz':MM.length≤sizeLine:=by rw[hMl];exact hMz
  generalize hcc:(cur == a)=cc at *
  cases hem:sm.isEmpty with
  | true=>rw[hem]at hne;simp[hne]
  | false =>
   rw[hem]at hne
   by_cases h1:(met.length:Int)=1
   ·simp[hne,hMl,hMz,h1]
   ·have h1':((met.length:Int) == 1)=false:=by simpa using h1
    simp[hne,hMl,hMz,h1,h1',q3,hcc]
 obtain⟨t,tst,te⟩:=tst
 cases t with
 | false=>exact⟨T,w,met,sm,some (.lst .m (hm.map trD3)),p8,p9,p10,o11,p13,p14,h,by omega,by omega,hmp,Jk s0 (Jk e1 (Jk s2 (Jcp tst rfl)))⟩
 | true =>
  have hem:=te rfl
  have hpos:0 < sm.length:=List.length_pos_iff.mpr (by intro z;rw[z]at hem;cases hem)
  have both:(hm++sm).length=hm.length+sm.length:=List.length_append
  have hbz:(hm++sm).length≤sizeLine:=Yh (by omega)
  have d1:=YJ T (m:=((hm++sm).length:Int)) (by omega) (by omega)
  obtain⟨x,mx,g0⟩:=Jip (xs:=hm++sm) (Zy (t:=T) (m:=((hm++sm).length:Int)) (by omega)) (UA (by omega))
  have hx:TrR js x:=hs x (by
   rcases List.mem_append.mp mx with z | z
   ·exact(List.mem_filter.mp z).1
   ·exact z)
  generalize drT T ((hm++sm).length:Int)=T1 at *
  have pa:pAdd (.lst .m (hm.map trD3)) (.lst .m (sm.map trD3))=some (.lst .m ((hm++sm).map trD3)):=by
   rw[List.map_append]
   exact JdU (JdX _) (JdX _) (by rw[List.length_map,List.length_map,←both];exact hbz)
  have s3:(sAsg (cImm (cIdx (c2 pAdd (cVar 7) (cVar 6)) (Jo Jf (aOw (cMv 0) (some 0) (aRo (cL pLen (Jb (c2 pAdd (cVar 7) (cVar 6)) cNil)) aNil))))) (gSet 11)) (RE T dj a w met o5 sm (some (.lst .m (hm.map trD3))) p8 p9 p10 o11 p13 p14)=.nx (RE T1 dj a w met o5 sm (some (.lst .m (hm.map trD3))) p8 p9 p10 (some (trD3 x)) p13 p14):=by
   have hSl:((hm++sm).map trD3).length=(hm++sm).length:=List.length_map _
   have hmm:(trD3 x).imm=true:=rfl
   unfold RE
   generalize trD3 x=X0 at *
   generalize w.map pt=WW
   generalize met.map D.str=MM
   generalize (hm++sm).map trD3=BB at *
   generalize sm.map trD3=SS at *
   generalize hm.map trD3=HH at *
   have hSz:BB.length≤sizeLine:=by rw[hSl];exact hbz
   generalize (hm++sm).length=bl at *
   simp[pa,hSl,hSz,hbz,d1,g0,hmm]
  have hwz:w.length < sizeLine:=QS (by omega)
  have hmz:met.length < sizeLine:=QS (by omega)
  have ex:trD3 x=.tup [.int x.1,.int x.2.1,.str x.2.2]:=rfl
  have a2:atI [D.int x.1,.int x.2.1,.str x.2.2] 2=some (.str x.2.2):=rfl
  have c2':cutD [D.int x.1,.int x.2.1,.str x.2.2] none (some 2)=[.int x.1,.int x.2.1]:=rfl
  have ew:(w++[(x.1,x.2.1)]).map pt=w.map pt++[.tup [.int x.1,.int x.2.1]]:=by simp[pt]
  have em:(met++[x.2.2]).map D.str=met.map D.str++[.str x.2.2]:=by simp
  have s5:(ZE (cMut 3 kdL Uc (lVar 3) (Jb (cSl (cVar 11) pNo (pAt (cK (.int 2)))) cNil))) (RE T1 dj a w met o5 sm (some (.lst .m (hm.map trD3))) p8 p9 p10 (some (trD3 x)) p13 p14)=.nx (RE T1 dj a (w++[(x.1,x.2.1)]) met o5 sm (some (.lst .m (hm.map trD3))) p8 p9 p10 (some (trD3 x)) p13 p14):=by
   unfold RE
   rw[ex,ew]
   have hWl:(w.map pt).length < sizeLine:=by rw[List.length_map];exact hwz
   generalize w.map pt=WW at *
   generalize met.map D.str=MM
   generalize sm.map trD3=SS
   generalize hm.map trD3=HH
   simp[c2',hWl]
  have s6:(ZE (cMut 4 kdL Uc (lVar 4) (Jb (cImm (cIdx (cVar 11) (cK (.int 2)))) cNil))) (RE T1 dj a (w++[(x.1,x.2.1)]) met o5 sm (some (.lst .m (hm.map trD3))) p8 p9 p10 (some (trD3 x)) p13 p14)=.nx (RE T1 dj a (w++[(x.1,x.2.1)]) (met++[x.2.2]) o5 sm (some (.lst .m (hm.map trD3))) p8 p9 p10 (some (trD3 x)) p13 p14):=by
   unfold RE
   rw[ex,em]
   have hMl:(met.map D.str).length < sizeLine:=by rw[List.length_map];exact hmz
   generalize (w++[(x.1,x.2.1)]).map pt=WW at *
   generalize met.map D.str=MM at *
   generalize sm.map trD3=SS
   generalize hm.map trD3=HH
   simp[a2,hMl]
  refine⟨T1,w++[(x.1,x.2.1)],met++[x.2.2],sm,some (.lst .m (hm.map trD3)),p8,p9,p10,some (trD3 x),p13,p14,fun p hp=>?_,by simp,by simp,by simp,Jk s0 (Jk e1 (Jk s2 (Jcb tst (Jk s3 (Jk s5 s6)))))⟩
  rcases List.mem_append.mp hp with z | z
  ·exact h p z
  ·rw[List.mem_singleton.mp z];exact hx
theorem v_lround (hd:Hold jt js dj) (hjl:js.length≤1000) (T:Tp):∃w T',ZT [tp T,dj,.str a]=.ok (.tup (w.map pt)) [tp T']∧SmW js w∧w.length≤8:=by
 have run:=QD (f:=fun i:Nat=>D.int i) (g:=gSet 5) (body:=QN)
  (fun rest env=>∃T w met o5 o6 o7 o8 o9 o10 o11 o13 o14,env=[some (tp T),some dj,some (.str a),some (.lst .m (w.map pt)),some (.lst .m (met.map D.str)),o5,o6,o7,o8,o9,o10,o11,none,o13,o14,none]∧SmW js w∧w.length+rest.length≤8∧met.length+rest.length≤9∧met≠[])
  (fun k rest env ⟨T,w,met,o5,o6,o7,o8,o9,o10,o11,o13,o14,e,h,hl,hl2,hmp⟩=>by
   subst e
   simp only[List.length_cons]at hl hl2
   obtain⟨T',w',met',sm,p7,p8,p9,p10,p11,p13,p14,h',hl',hm',hmp',e⟩:=rd_turn (T:=T) (a:=a) hd hjl h (by omega) (by omega) hmp (some (.int (k:Nat))) o6 o7 o8 o9 o10 o11 o13 o14
   exact⟨[some (tp T),some dj,some (.str a),some (.lst .m (w.map pt)),some (.lst .m (met.map D.str)),some (.int (k:Nat)),o6,o7,o8,o9,o10,o11,none,o13,o14,none],_,rfl,e,T',w',met',_,_,_,_,_,_,_,_,_,rfl,h',by omega,by omega,hmp'⟩)
  (List.range 8) [some (tp T),some dj,some (.str a),some (.lst .m []),some (.lst .m [.str a]),none,none,none,none,none,none,none,none,none,none,none] ⟨T,[],[a],none,none,none,none,none,none,none,none,none,rfl,(fun _ z=>nomatch z),by simp,by simp,by simp⟩
 have hr:ZP [.int 8]=some ((List.range 8).map fun i:Nat=>D.int (i:Nat)):=JcY 8 (by decide) (by decide)
 have s0:(sPar 3 4 (Jb (cLst cNil) (Jb (cLst (Jb (cImm (cVar 2)) cNil)) cNil))) [some (tp T),some dj,some (.str a),none,none,none,none,none,none,none,none,none,none,none,none,none]=.nx [some (tp T),some dj,some (.str a),some (.lst .m []),some (.lst .m [.str a]),none,none,none,none,none,none,none,none,none,none,none]:=rfl
 have src:ZH (Jb (cK (.int 8)) cNil) [some (tp T),some dj,some (.str a),some (.lst .m []),some (.lst .m [.str a]),none,none,none,none,none,none,none,none,none,none,none]=.ok ((List.range 8).map fun i:Nat=>D.int (i:Nat)) [some (tp T),some dj,some (.str a),some (.lst .m []),some (.lst .m [.str a]),none,none,none,none,none,none,none,none,none,none,none]:=by
  simp[hr]
 obtain⟨env',k1,T',w,met,o5,o6,o7,o8,o9,o10,o11,o13,o14,rfl,h,hl,hl2,hmp⟩:=run
 refine⟨w,T',?_,h,by simpa using hl⟩
 refine JN (env0:=[some (tp T),some dj,some (.str a),none,none,none,none,none,none,none,none,none,none,none,none,none]) (env:=[some (tp T'),some dj,some (.str a),some (.lst .m (w.map pt)),some (.lst .m (met.map D.str)),o5,o6,o7,o8,o9,o10,o11,none,o13,o14,none]) ⟨rfl,by decide⟩ rfl ?_ rfl
 unfold Jci
 refine Jk s0 (Jk (env1:=[some (tp T'),some dj,some (.str a),some (.lst .m (w.map pt)),some (.lst .m (met.map D.str)),o5,o6,o7,o8,o9,o10,o11,none,o13,o14,none]) ?_ ?_)
 ·unfold sFor;rw[src];exact k1
 ·have ip:=ZO w
  have wz:(w.map pt).length≤sizeLine:=by
   rw[List.length_map];simp only[List.length_nil]at hl;exact Yh (by omega)
  generalize w.map pt=WW at *
  generalize met.map D.str=MM at *
  simp[ip,wz]
end
end VS
namespace VS
open PySem L2 SeqAt
section
variable {ns:List Str} {js:List Jn} {z:Int}
theorem rows_right (nd:ns.Nodup) (hone:∀j∈js,j.1∈ns) (hoth:∀j∈js,j.2.1∈ns) (h0:0≤z) (o:Str→Int) :
  RBs ns (js.filter (coB o z)) z (.lst .l (((YW ns).map fun n=>(n,o n)).map nr))=true:=by
 have pm:=Uh ns
 generalize hrs:((YW ns).map fun n=>(n,o n))=rs
 have hf:rs.map (·.1)=YW ns:=by rw[←hrs,List.map_map];exact List.map_id' _
 have hnd:(rs.map (·.1)).Nodup:=by rw[hf];exact pm.nodup_iff.mpr nd
 have hv:∀n∈ns,vlN rs n=o n:=fun n hn=>by
  have hm:(n,o n)∈rs:=by rw[←hrs];exact List.mem_map.mpr ⟨n,pm.mem_iff.mpr hn,rfl⟩
  exact(Jfi hnd _ hm).symm
 have q1:cdN ns rs=true:=decide_eq_true ⟨hnd,fun s hs=>by rw[hf]at hs;exact pm.mem_iff.mp hs,by
  have:=congrArg List.length hf
  rw[List.length_map,pm.length_eq]at this;exact this⟩
 have q2:outN (js.filter (coB o z)) z (vlN rs)=true:=by
  unfold outN
  rw[List.all_eq_true]
  intro j hj
  obtain⟨h1,h2⟩:=List.mem_filter.mp hj
  rw[hv j.1 (hone j h1),hv j.2.1 (hoth j h1)]
  unfold coB at h2
  exact decide_eq_true ((JfG h0).mp (of_decide_eq_true h2))
 have q3:RB ns (js.filter (coB o z)) z (rs.map nr)=true:=by
  unfold RB
  rw[Jcc]
  show (cdN ns rs && outN _ z (vlN rs))=true
  rw[q1,q2];rfl
 exact q3
end
end VS
namespace VS
open PySem L2 SeqAt
structure KdJ (j:Nat) (which:Nat) (P e:D):Prop where
 rz:Rz (6+3 * j) (100+j) (2+j) P e
 wt:wz e≤5000 * 4 ^ j
 top:which=0→∃xs,P=.lst .f xs∨P=.ftu xs
abbrev Kd0:=KdJ 0
theorem KdJ.kd {j w:Nat} {P e:D} (h:KdJ j w P e) (hj:j≤2):Kd w P e:=by
 have h4:5000 * 4 ^ j≤5000 * 4 ^ 2:=Nat.mul_le_mul_left _ (Nat.pow_le_pow_right (by decide) hj)
 exact⟨⟨h.rz.th,JaJ (by omega) (by omega) (by omega) h.rz.ok,h.rz.im,h.rz.no,h.rz.rw⟩,by have:=h.wt;omega,h.top⟩
theorem KdJ.isL {j:Nat} {P e:D} (h:KdJ j 0 P e):isL e=true:=by
 obtain⟨xs,rfl | rfl⟩:=h.top rfl
 ·rw[←h.rz.th];rfl
 ·rw[←h.rz.th];rfl
theorem spoil_j {ns:List Str} (nok:∀s∈ns,UB s=true) (hns:ns.length≤100) {j w:Nat} (hj:j≤1) {P e:D} (h:KdJ j w P e) (T:Tp) :
  ∃R T',JU 9 [tp T,P,.lst .l (ns.map D.str)]=.ok R [tp T',P]∧R.nol=true∧KdJ (j+1) w R.fix R.fix.thaw:=by
 obtain⟨R,T',e1,b,tp⟩:=JdY nok hns (b:=2+j) (m:=100+j) (by omega) (by omega) (by omega) 9 T (n:=6+3 * j) (by omega) h.rz
 have h4:5000 * 4 ^ (j+1)=4 * (5000 * 4 ^ j):=by rw[Nat.pow_succ];omega
 have h5:1≤4 ^ j:=Nat.one_le_pow _ _ (by decide)
 refine⟨R,T',e1,b.no,⟨rfl,?_,b.im.1,b.im.2,b.rw⟩,?_,fun hw=>?_⟩
 ·have:=b.ok
  have e1:6+3 * j+3=6+3 * (j+1):=by omega
  have e2:100+j+1=100+(j+1):=by omega
  have e3:2+j+1=2+(j+1):=by omega
  rw[e1,e2,e3]at this;exact this
 ·have:=b.wt;have:=h.wt;omega
 ·subst hw
  obtain⟨ys,rfl | rfl⟩:=tp h.isL
  ·exact⟨fixs ys,.inl rfl⟩
  ·exact⟨fixs ys,.inr rfl⟩
theorem kd0_tup {w:Nat} {xs:List D} (hw:w≠0) (h:∀x∈xs,pzb 5 100 2 x=true) (hl:xs.length≤100) (hz:wzs xs≤5000) (th:∀x∈xs,x.thaw=x):Kd0 w (.tup xs) (.tup xs):=by
 have key:pzb 6 100 2 (.tup xs)=true:=by
  show (decide (xs.length≤100) && xs.all (pzb 5 100 2))=true
  rw[Bool.and_eq_true,decide_eq_true_eq,List.all_eq_true];exact⟨hl,h⟩
 have tt:(D.tup xs).thaw=.tup xs:=by show D.tup (thaws xs)=_;rw[JaU th]
 exact⟨⟨tt,key,(Uz key).1,(Uz key).2.1,.inl tt⟩,by rw[Ja6 (by decide) h];exact hz,fun e=>absurd e hw⟩
theorem Jgy {w:Nat} {xs:List D} (h:∀x∈xs,pzb 5 100 2 x=true) (hl:xs.length≤100) (hz:wzs xs≤5000) (th:∀x∈xs,x.thaw=x):Kd0 w (.lst .f xs) (.lst .f xs):=by
 have key:pzb 6 100 2 (.lst .f xs)=true:=by
  show (decide (xs.length≤100) && xs.all (pzb 5 100 2))=true
  rw[Bool.and_eq_true,decide_eq_true_eq,List.all_eq_true];exact⟨hl,h⟩
 have tt:(D.lst .f xs).thaw=.lst .f xs:=by show D.lst .f (thaws xs)=_;rw[JaU th]
 exact⟨⟨tt,key,(Uz key).1,(Uz key).2.1,.inl tt⟩,by rw[Jfb (by decide) h];exact hz,fun _=>⟨xs,.inl rfl⟩⟩
theorem Jih {n:Str} (h:UB n=true) (k m:Nat):pzb (k+1) m 2 (.str n)=true∧wz (.str n)≤8:=by
 have hb:=JeV h
 refine⟨by rw[pz_s];exact Jb4 hb (by decide),?_⟩
 rw[JeP]
 unfold aB at hb
 simp only[Bool.and_eq_true,decide_eq_true_eq]at hb
 exact hb.1
theorem Jhw {i:Int} (h:i.natAbs≤10 ^ 31) (k m:Nat):pzb (k+1) m 2 (.int i)=true∧wz (.int i)≤130:=by
 have e:(10:Nat) ^ 31≤10 ^ 31 * (2+1):=Nat.le_mul_of_pos_right _ (by decide)
 have e2:(10:Nat) ^ 31≤10 ^ 35:=by decide
 exact⟨decide_eq_true (by omega),JeR (by omega)⟩
theorem Jii {x y:D} {a b:Nat} (hx:pzb 4 100 2 x=true∧wz x≤a) (hy:pzb 4 100 2 y=true∧wz y≤b):pzb 5 100 2 (.tup [x,y])=true∧wz (.tup [x,y])≤a+b+2:=by
 refine⟨?_,?_⟩
 ·show (decide (2≤100) && [x,y].all (pzb 4 100 2))=true
  simp[hx.1,hy.1]
 ·have e:wz (.tup [x,y])=wzs [x,y]:=Ja6 (n:=4) (m:=100) (b:=2) (by decide) fun q hq=>by
   simp only[List.mem_cons,List.mem_nil_iff,or_false]at hq
   rcases hq with rfl | rfl
   ·exact hx.1
   ·exact hy.1
  rw[e]
  have:=hx.2;have:=hy.2
  simp only[wzs,List.map_cons,List.map_nil,List.sum_cons,List.sum_nil];omega
section
variable {ns:List Str} {js:List Jn} {z:Int} {a b:Str}
theorem kd_rows {rs:List (Str × Int)} (hl:rs.length≤20) (hn:∀r∈rs,UB r.1=true) (hb:∀r∈rs,r.2.natAbs≤10 ^ 31):Kd0 0 (.lst .f (rs.map nr)) (.lst .f (rs.map nr)):=by
 have each:∀x∈rs.map nr,pzb 5 100 2 x=true∧wz x≤140:=fun x hx=>by
  obtain⟨r,hr,rfl⟩:=List.mem_map.mp hx
  exact Jii (Jih (hn r hr) 3 100) (Jhw (hb r hr) 3 100)
 refine Jgy (fun x hx=>(each x hx).1) (by rw[List.length_map];omega) ?_ fun x hx=>?_
 ·have:=Je4 (w:=140) fun x hx=>(each x hx).2
  rw[List.length_map]at this
  have h2:rs.length * (140+1)≤20 * 141:=Nat.mul_le_mul_right _ hl
  omega
 ·obtain⟨r,_,rfl⟩:=List.mem_map.mp hx;rfl
theorem Jf8 {w:Nat} (hw:w≠0) {ps:List (Int × Int)} (hl:ps.length≤10) (hb:∀p∈ps,(0≤p.1∧p.1≤1000)∧(p.2=1∨p.2=-1)):Kd0 w (.tup (ps.map pt)) (.tup (ps.map pt)):=by
 have c:(1000:Nat)≤10 ^ 31:=by decide
 have each:∀x∈ps.map pt,pzb 5 100 2 x=true∧wz x≤262:=fun x hx=>by
  obtain⟨p,hp,rfl⟩:=List.mem_map.mp hx
  obtain⟨h1,h2⟩:=hb p hp
  exact Jii (Jhw (by omega) 3 100) (Jhw (by omega) 3 100)
 refine kd0_tup hw (fun x hx=>(each x hx).1) (by rw[List.length_map];omega) ?_ fun x hx=>?_
 ·have:=Je4 (w:=262) fun x hx=>(each x hx).2
  rw[List.length_map]at this
  have h2:ps.length * (262+1)≤10 * 263:=Nat.mul_le_mul_right _ hl
  omega
 ·obtain⟨r,_,rfl⟩:=List.mem_map.mp hx;rfl
theorem Jh3 {w:Nat} {g:List Str} (hl:g.length≤20) (hn:∀n∈g,UB n=true):Kd0 w (fR g) (fR g):=by
 have each:∀x∈g.map D.str,pzb 5 100 2 x=true∧wz x≤8:=fun x hx=>by
  obtain⟨n,h,rfl⟩:=List.mem_map.mp hx
  exact Jih (hn n h) 4 100
 refine Jgy (fun x hx=>(each x hx).1) (by rw[List.length_map];omega) ?_ fun x hx=>?_
 ·have:=Je4 (w:=8) fun x hx=>(each x hx).2
  rw[List.length_map]at this
  have h2:g.length * (8+1)≤20 * 9:=Nat.mul_le_mul_right _ hl
  omega
 ·obtain⟨r,_,rfl⟩:=List.mem_map.mp hx;rfl
def Right (ns:List Str) (w:Nat) (js:List Jn) (z:Int) (a b:Str) (e:D):Prop :=
 (w=0→RBs ns js z e.lend=true)∧(w=2→∀dj,Hold jt js dj→YT [dj,.str a,.str b,e.lend]=.ok (.bl true) []) ∧
 (w=3→∀dn dj,HSt ns dn→Hold jt js dj→Yi [dn,dj,.str a,.str b,e.lend]=.ok (.bl true) [])
def WF (ns:List Str) (js:List Jn) (z:Int):D:=.tup [.lst .f (ns.map D.str),.lst .f (js.map jt),.int z]
def PP (w:Nat) (W:D) (a b:Str) (P:D):D:=.tup [.int (w:Nat),W,EN70 a b,P]
def Ppr (ns:List Str) (z:Int) (d:D):Prop:=∃(w:Nat) (P:D) (a b:Str) (js:List Jn),w≤3∧d=PP w (WF ns js z) a b P∧Wld ns js z (WF ns js z)∧UB a=true∧UB b=true∧∃e,Kd0 w P e∧Right ns w js z a b e
theorem Jic (ns:List Str) (js:List Jn) (z:Int):(WF ns js z).imm=true:=by
 have a:=Zg ns
 have b:=ZM js
 show (((Fl.f == .l || Fl.f == .f) && imms (ns.map D.str)) && (((Fl.f == .l || Fl.f == .f) && imms (js.map jt)) && (true && true)))=true
 rw[a,b];rfl
theorem Jhd {w:Nat} {W P:D} (h1:W.imm=true) (h2:P.imm=true):(PP w W a b P).imm=true:=by
 show (true && (W.imm && ((true && (true && true)) && (P.imm && true))))=true
 rw[h1,h2];rfl
theorem Ppr.imm {d:D} (h:Ppr ns z d):d.imm=true:=by
 obtain⟨w,P,a,b,js,_,rfl,_,_,_,e,k,_⟩:=h
 exact Jhd (Jic _ _ _) k.rz.im
theorem cls_parted {G:List (List Str)} (hG:GrpOk js G) {g:List Str} (hg:g∈G) (hs:∀n∈g,n∈ns) (hok:∀n∈ns,UB n=true) (ha:a∈g) (hb:b∉g) (hl:g.length≤20) (hjl:js.length≤1000) {dn dj:D} (hn:HSt ns dn) (hj:Hold jt js dj) :
  Yi [dn,dj,.str a,.str b,(fR g).lend]=.ok (.bl true) []:=by
 have hp:pln 6 (fR g).lend=true:=JbC (m:=100) (by decide) (Jdj (by decide) (Jh3 (w:=3) hl fun n h=>hok n (hs n h)).rz.ok)
 have ls:=Zq g
 have el:(fR g).lend=.lst .l (g.map D.str):=by show D.lst .l (lends _)=_;rw[ls]
 rw[el]at hp ⊢
 have sq:Zm (D.lst .l (g.map D.str))=some (g.map D.str):=rfl
 rcases Jbl (a:=a) (b:=b) hn hj hjl hp (fun ds hq=>by rw[sq]at hq;cases hq;rw[List.length_map];omega) with ⟨_,h | ⟨ds,h1,_,h3⟩⟩ | ⟨l,hS,_,_,_,e⟩
 ·cases h
 ·rw[sq]at h1;cases h1
  have:(g.map D.str).all (isNm ns)=true:=by
   rw[List.all_eq_true]
   intro x hx
   obtain⟨n,h,rfl⟩:=List.mem_map.mp hx
   exact decide_eq_true (hs n h)
  rw[this]at h3;cases h3
 ·have he:=hst_of hS
  rw[sq]at he
  injection he with he
  have:l=g:=((List.map_inj_right (fun x y (h:D.str x=D.str y)=>by injection h)).mp he).symm
  subst this
  have hall:(js.all fun j=>decide (j.1∈l) == decide (j.2.1∈l))=true:=by
   rw[List.all_eq_true]
   intro j hj
   have c:Conn js j.1 j.2.1:=⟨j.2.2,.one hj⟩
   have i:j.1∈l↔j.2.1∈l:=⟨fun h=>(hG.eqv l hg _ h _).mpr c,fun h=>(hG.eqv l hg _ h _).mpr c.symm⟩
   by_cases h:j.1∈l
   ·have:=i.mp h;simp[h,this]
   ·have:¬ j.2.1∈l:=fun q=>h (i.mpr q)
    simp[h,this]
  have hpb:pB js a b l=true:=by
   unfold pB
   rw[hall,decide_eq_true (hG.gnd l hg),decide_eq_true ha,decide_eq_true hb];rfl
  rw[e,hpb]
theorem twin_any (T:Tp) (hl:js.length≤80) (jo:JOk ns js) (hok:∀n∈ns,UB n=true) :
  ∃more bg ring T',YA [tp T,.lst .f (js.map jt)]=.ok (.tup [.lst .f (more.map jt),.str bg,ring]) [tp T',.lst .f (js.map jt)]∧Jw ns more∧more.length≤81∧UB bg=true∧∃e,Kd0 1 ring e:=by
 by_cases hne:js=[]
 ·subst hne
  refine⟨[], "last", .ftu [],T,v_ltwin0 T,⟨(fun _ h=>nomatch h),(fun _ h=>nomatch h),(fun _ h=>nomatch h),(fun _ h=>nomatch h)⟩,by decide,by decide +kernel,.tup [],⟨rfl,rfl,rfl,rfl,.inr ⟨[],rfl⟩⟩,?_,fun e=>(by cases e)⟩
  rw[Ja6 (xs:=[]) (n:=1) (m:=1) (b:=1) (by decide) (fun x h=>absurd h (by simp))]
  decide
 ·obtain⟨k,j,T',hj,e⟩:=v_ltwin1 T (by omega) hne
  have hm:j∈js:=List.mem_of_getElem? hj
  have hk:k < js.length:=by
   rcases Nat.lt_or_ge k js.length with h | h
   ·exact h
   ·rw[List.getElem?_eq_none h]at hj;cases hj
  refine⟨_,_,_,T',e,⟨fun q hq=>?_,fun q hq=>?_,fun q hq=>?_,fun q hq=>?_⟩,by simp;omega,hok _ (jo.one j hm),_,Jf8 (w:=1) (ps:=[((k:Nat),1),((js.length:Nat),-1)]) (by decide) (by simp) fun p hp=>?_⟩
  ·rcases List.mem_append.mp hq with h | h
   ·exact jo.one q h
   ·rw[List.mem_singleton.mp h];exact jo.one j hm
  ·rcases List.mem_append.mp hq with h | h
   ·exact jo.other q h
   ·rw[List.mem_singleton.mp h];exact jo.other j hm
  ·rcases List.mem_append.mp hq with h | h
   ·have:=jo.lo q h;omega
   ·rw[List.mem_singleton.mp h];have:=jo.lo j hm;show _≤j.2.2+1;omega
  ·rcases List.mem_append.mp hq with h | h
   ·have:=jo.hi q h;omega
   ·rw[List.mem_singleton.mp h];have:=jo.hi j hm;show j.2.2+1≤_;omega
  ·simp only[List.mem_cons,List.mem_nil_iff,or_false]at hp
   rcases hp with rfl | rfl
   ·exact⟨⟨by show (0:Int)≤(k:Nat);omega,by show ((k:Nat):Int)≤1000;omega⟩,.inl rfl⟩
   ·exact⟨⟨by show (0:Int)≤(js.length:Nat);omega,by show ((js.length:Nat):Int)≤1000;omega⟩,.inr rfl⟩
end
end VS
namespace VS
open PySem L2 SeqAt
section
variable {ns:List Str} {js:List Jn} {z:Int} {a b:Str}
def PE (T:Tp) (ns:List Str) (js:List Jn) (z:Int) (o4 o5 o6 o8 o9 o10 o12 o13 o14 o15:Option D):Env:=[some (tp T),some (.lst .f (ns.map D.str)),some (.lst .f (js.map jt)),some (.int z),o4,o5,o6,none,o8,o9,o10,none,o12,o13,o14,o15]
theorem ix_dNm {td:List Str} {o:Str→Int} {a:Str} (ha:a∈td):ixD (dN .m td o) (.str a)=some (.int (o a)):=by simp[dN,ixD,D.key,ha]
theorem not_last (jo:JOk ns js) (hla:∀j∈js,j.1≠("last" : Str)∧j.2.1≠("last" : Str)) (ha:a∈ns) (hne:a≠("last" : Str)):¬ Conn js a ("last" : Str):=fun c=>by
 have w:Jgl (ns.filter fun n=>decide (n≠("last" : Str))) js:=fun x y s h=>by
  have h1:=hla _ h
  have h2:=jo.one _ h
  have h3:=jo.other _ h
  dsimp only at h1 h2 h3
  exact⟨List.mem_filter.mpr ⟨h2,decide_eq_true h1.1⟩,List.mem_filter.mpr ⟨h3,decide_eq_true h1.2⟩⟩
 have:=c.mem w (List.mem_filter.mpr ⟨ha,decide_eq_true hne⟩)
 have:=of_decide_eq_true (List.mem_filter.mp this).2
 exact this rfl
theorem stp_mem70 (jo:JOk ns js) {p:Int × Int} {x y:Str} (h:stp js p x=some y):y∈ns:=by
 unfold stp at h
 split at h
 ·cases hj:js[p.1.toNat]? with
  | none=>rw[hj]at h;cases h
  | some j =>
   rw[hj]at h
   have hm:=List.mem_of_getElem? hj
   simp only at h
   split at h
   ·split at h
    ·cases h;exact jo.other j hm
    ·cases h
   ·split at h
    ·split at h
     ·cases h;exact jo.one j hm
     ·cases h
    ·cases h
 ·cases h
theorem nr_nols (rs:List (Str × Int)):nols (rs.map nr)=true:=ZU fun x hx=>by
 obtain⟨p,_,rfl⟩:=List.mem_map.mp hx;rfl
theorem nr_fixs (rs:List (Str × Int)):fixs (rs.map nr)=rs.map nr:=Qz (fun _=>rfl) rs
theorem v_lpapers (nd:ns.Nodup) (hnl:ns.length≤20) (h0:0 < ns.length) (hok:∀n∈ns,UB n=true) (jo:JOk ns js) (hjl:js.length≤80) (hz0:0≤z) (hz1:z≤1000) (hla:∀j∈js,j.1≠("last" : Str)∧j.2.1≠("last" : Str)) (T:Tp) :
  ∃(ps:List D) (T':Tp),Zz [tp T,.lst .f (ns.map D.str),.lst .f (js.map jt),.int z]=.ok (.lst .m ps) [tp T',.lst .f (ns.map D.str),.lst .f (js.map jt)]∧(∀d∈ps,Ppr ns z d)∧0 < ps.length∧ps.length≤5:=by
 have hnI:(0:Int) < (ns.length:Int):=by omega
 have d1:=YJ T hnI (by omega)
 obtain⟨a,ha,_,ea⟩:=Jdd (f:=D.str) (xs:=ns) (Zy (t:=T) hnI) (UA (t:=T) hnI)
 generalize drV T (ns.length:Int)=r1 at *
 generalize drT T (ns.length:Int)=T1 at *
 have z2:2≤sizeLine:=Yh (by decide)
 have z3:3≤sizeLine:=Yh (by decide)
 have z4:4≤sizeLine:=Yh (by decide)
 have z1:1≤sizeLine:=Yh (by decide)
 have k1:1 < sizeLine:=QS (by decide)
 have k2:2 < sizeLine:=QS (by decide)
 have k3:3 < sizeLine:=QS (by decide)
 have hnz:ns.length≤sizeLine:=Yh (by omega)
 have isn:=Zg ns
 have isj:=ZM js
 have ln:(D.lst .f (ns.map D.str)).lend=.lst .l (ns.map D.str):=by have:=Zq ns;show D.lst .l (lends _)=_;rw[this]
 have lj:(D.lst .f (js.map jt)).lend=.lst .l (js.map jt):=by have:=Jaq js;show D.lst .l (lends _)=_;rw[this]
 have hNl:(ns.map D.str).length=ns.length:=List.length_map _
 have hJl:(js.map jt).length=js.length:=List.length_map _
 obtain⟨q,e1,qn,qm,qb⟩:=v_lnum7 nd (by omega) (by omega) jo.one jo.other (fun j h=>⟨jo.lo j h,jo.hi j h⟩)
 have aq:a∈q.1:=(qm a).mpr ha
 have dm:(dN .m q.1 q.2).imm=false:=rfl
 have dno:(dN .m q.1 q.2).nol=true:=by
  have h:nols (q.1.map fun m=>D.int (q.2 m))=true:=ZU fun x hx=>by
   obtain⟨m,_,rfl⟩:=List.mem_map.mp hx;rfl
  show ((Fl.m == .m || Fl.m == .f) && nols (q.1.map fun m=>D.int (q.2 m)))=true
  rw[h];rfl
 have dl:(dN .m q.1 q.2).lend=dN .l q.1 q.2:=by
  have:=JcM (f:=fun m=>D.int (q.2 m)) (fun _=>rfl) q.1
  show D.dct .l _ (lends _)=_;rw[this];rfl
 have s1:(sAsg (cTup (Jb (cImm (cIdx (cVar 1) (Jo Jf (aOw (cMv 0) (some 0) (aRo (cL pLen (Jb (cVar 1) cNil)) aNil))))) (Jb (Jo Zi (aRo (cVar 1) (aRo (cVar 2) aNil))) cNil))) (JI 2 (Je (gSet 4) (Je (gSet 5) JL)))) (PE T ns js z none none none none none none none none none none)=.nx (PE T1 ns js z (some (.str a)) (some (dN .m q.1 q.2)) none none none none none none none none):=by
  unfold PE
  generalize dN .m q.1 q.2=DN at *
  generalize ns.map D.str=NN at *
  generalize js.map jt=JJ at *
  simp[hNl,hnz,d1,ea,isn,isj,ln,lj,e1,z2,dno]
 have hsl:(YW ns).length=ns.length:=(Uh ns).length_eq
 have lc2:=JbX (f:=D.str) (vs:=[7]) (g:=gSet 7) (ct:=cYes) (ce:=cTup (Jes 7 (Jb (cImm (cIdx (cVar 5) (cVar 7))) cNil))) (env:=PE T1 ns js z (some (.str a)) (some (dN .m q.1 q.2)) none none none none none none none none) (y:=fun n=>nr (n,q.2 n)) (t:=fun _=>true) (xs:=YW ns) fun n hn=>⟨(PE T1 ns js z (some (.str a)) (some (dN .m q.1 q.2)) none none none none none none none none).set 7 (some (.str n)),rfl,rfl,rfl,fun _=>by
  have ix:=ix_dNm (o:=q.2) ((qm n).mpr ((Uh ns).mem_iff.mp hn))
  have en:nr (n,q.2 n)=.tup [.str n,.int (q.2 n)]:=rfl
  rw[en]
  unfold PE
  generalize dN .m q.1 q.2=DN at *
  generalize ns.map D.str=NN
  generalize js.map jt=JJ
  simp[ix,z2],rfl⟩
 rw[List.filter_eq_self.mpr (fun _ _=>rfl)]at lc2
 generalize hrs:(YW ns).map (fun n=>(n,q.2 n))=rs at *
 have erm:(YW ns).map (fun n=>nr (n,q.2 n))=rs.map nr:=by rw[←hrs,List.map_map];rfl
 rw[erm]at lc2
 have s2:(sAsg (cLc (JB (cL YE (Jb (cVar 1) cNil))) [7] (gSet 7) cYes (cTup (Jes 7 (Jb (cImm (cIdx (cVar 5) (cVar 7))) cNil)))) (gSet 6)) (PE T1 ns js z (some (.str a)) (some (dN .m q.1 q.2)) none none none none none none none none)=.nx (PE T1 ns js z (some (.str a)) (some (dN .m q.1 q.2)) (some (.lst .m (rs.map nr))) none none none none none none none):=by
  have src:JB (cL YE (Jb (cVar 1) cNil)) (PE T1 ns js z (some (.str a)) (some (dN .m q.1 q.2)) none none none none none none none none)=.ok ((YW ns).map D.str) (PE T1 ns js z (some (.str a)) (some (dN .m q.1 q.2)) none none none none none none none none):=by
   have so:=JaA (g:=.f) (ns:=ns) (by omega)
   have iso:=Zg (YW ns)
   unfold PE
   generalize dN .m q.1 q.2=DN at *
   generalize (YW ns).map D.str=SS at *
   generalize ns.map D.str=NN at *
   generalize js.map jt=JJ
   simp[so,iso]
  have w0:Ur (PE T1 ns js z (some (.str a)) (some (dN .m q.1 q.2)) none none none none none none none none) [7]=PE T1 ns js z (some (.str a)) (some (dN .m q.1 q.2)) none none none none none none none none:=rfl
  have c0:ZX (PE T1 ns js z (some (.str a)) (some (dN .m q.1 q.2)) none none none none none none none none) [7]=true:=rfl
  have nl:((YW ns).map D.str).length≤sizeLine:=by rw[List.length_map,hsl];exact hnz
  unfold sAsg
  simp only[e_lc,src,R.bind,c0,nl,and_self,if_true,w0,lc2]
  rfl
 obtain⟨w,l,b,T2,e3,hw,hwl,hb⟩:=v_lstraight (a:=a) (.l (f:=jt) (js:=js)) (by omega) T1
 have ipw:=ZO w
 have npw:=Jek w
 have nJ:=Jaz js
 have s3:(sAsg (Jo UT (aOw (cMv 0) (some 0) (aRo (cVar 2) (aRo (cVar 4) aNil)))) (JI 2 (Je (gSet 8) (Je (gSet 9) JL)))) (PE T1 ns js z (some (.str a)) (some (dN .m q.1 q.2)) (some (.lst .m (rs.map nr))) none none none none none none none)=.nx (PE T2 ns js z (some (.str a)) (some (dN .m q.1 q.2)) (some (.lst .m (rs.map nr))) (some (.tup (w.map pt))) (some (.str b)) none none none none none):=by
  unfold PE
  generalize dN .m q.1 q.2=DN at *
  generalize rs.map nr=RR at *
  generalize w.map pt=WW at *
  generalize ns.map D.str=NN at *
  generalize js.map jt=JJ at *
  simp[lj,e3,ipw,npw]
 obtain⟨gs,e4,wp⟩:=Jh0 (js:=js) nd (by omega) (by omega) jo.one jo.other
 obtain⟨G,mem⟩:=wp.grp
 have hgl:(cl gs).length≤sizeLine:=by rw[JhI];have:=JbA wp;exact Yh (by omega)
 have fx:=JeK (cl gs)
 have nrd:=JeH (cl gs)
 have im:=JgO (cl gs)
 obtain⟨own,rest,hf,hoc,hao⟩:∃own rest,(cl gs).filter (fun g=>decide (a∈g))=own::rest∧own∈cl gs∧a∈own:=by
  obtain⟨g,hg,hag⟩:=(mem a).mp ha
  have hm:g∈(cl gs).filter (fun g=>decide (a∈g)):=List.mem_filter.mpr ⟨hg,decide_eq_true hag⟩
  cases e:(cl gs).filter (fun g=>decide (a∈g)) with
  | nil=>rw[e]at hm;cases hm
  | cons o r =>
   have:=List.mem_filter.mp (by rw[e];exact List.mem_cons_self:o∈(cl gs).filter (fun g=>decide (a∈g)))
   exact⟨o,r,rfl,this.1,of_decide_eq_true this.2⟩
 have hos:∀n∈own,n∈ns:=fun n h=>(mem n).mpr ⟨own,hoc,h⟩
 have hol:own.length≤20:=Nat.le_trans (Zr (G.gnd own hoc) hos) hnl
 have lc4:=JbX (f:=fR) (vs:=[11]) (g:=gSet 11) (ct:=cTt (c2 pInW (cVar 4) (cVar 11))) (ce:=cGet 11) (env:=PE T2 ns js z (some (.str a)) (some (dN .m q.1 q.2)) (some (.lst .m (rs.map nr))) (some (.tup (w.map pt))) (some (.str b)) none none none none none) (y:=fR) (t:=fun g=>decide (a∈g)) (xs:=cl gs) (fun g _=>⟨(PE T2 ns js z (some (.str a)) (some (dN .m q.1 q.2)) (some (.lst .m (rs.map nr))) (some (.tup (w.map pt))) (some (.str b)) none none none none none).set 11 (some (fR g)),rfl,rfl,by
  have i:=Jil a g
  unfold PE
  generalize dN .m q.1 q.2=DN
  simp[i],fun _=>by
  have i:=JdF g
  unfold PE
  generalize dN .m q.1 q.2=DN
  generalize fR g=FG at *
  simp[i],rfl⟩)
 rw[hf]at lc4
 have s4:(sAsg (cImm (cIdx (cLc (JB (cFix (Jo YV (aRo (cVar 1) (aRo (cVar 2) aNil))))) [11] (gSet 11) (cTt (c2 pInW (cVar 4) (cVar 11))) (cGet 11)) (cK (.int 0)))) (gSet 10)) (PE T2 ns js z (some (.str a)) (some (dN .m q.1 q.2)) (some (.lst .m (rs.map nr))) (some (.tup (w.map pt))) (some (.str b)) none none none none none)=.nx (PE T2 ns js z (some (.str a)) (some (dN .m q.1 q.2)) (some (.lst .m (rs.map nr))) (some (.tup (w.map pt))) (some (.str b)) (some (fR own)) none none none none):=by
  have a0:atI (fR own::rest.map fR) 0=some (fR own):=by
   have:=Ze (xs:=fR own::rest.map fR) (k:=0) (by simp)
   simpa using this
  rw[List.map_cons]at lc4
  have hgl':((cl gs).map fR).length≤sizeLine:=by rw[List.length_map];exact hgl
  have io:=JdF own
  unfold PE at lc4 ⊢
  generalize dN .m q.1 q.2=DN at *
  generalize (cl gs).map fR=CC at *
  generalize (cl gs).map rowD=CR at *
  generalize fR own=FO at *
  generalize rest.map fR=RR at *
  generalize ns.map D.str=NN at *
  generalize js.map jt=JJ at *
  simp[ln,lj,e4,fx,nrd,im,hgl',lc4,a0,io]
 obtain⟨more,bg,ring,T3,e5,jm,hml,hbg,er,hring⟩:=twin_any T2 hjl jo hok
 have iring:=hring.rz.im
 have nring:=hring.rz.no
 have nM:=Jaz more
 have s5:(sAsg (Jo YA (aOw (cMv 0) (some 0) (aOw (cMv 2) (some 2) aNil))) (JI 3 (Je (gSet 12) (Je (gSet 13) (Je (gSet 14) JL))))) (PE T2 ns js z (some (.str a)) (some (dN .m q.1 q.2)) (some (.lst .m (rs.map nr))) (some (.tup (w.map pt))) (some (.str b)) (some (fR own)) none none none none)=.nx (PE T3 ns js z (some (.str a)) (some (dN .m q.1 q.2)) (some (.lst .m (rs.map nr))) (some (.tup (w.map pt))) (some (.str b)) (some (fR own)) (some (.lst .f (more.map jt))) (some (.str bg)) (some ring) none):=by
  unfold PE
  generalize dN .m q.1 q.2=DN at *
  generalize rs.map nr=RR at *
  generalize w.map pt=WW at *
  generalize fR own=FO at *
  generalize more.map jt=MM at *
  generalize ns.map D.str=NN at *
  generalize js.map jt=JJ at *
  simp[e5,isj,nJ,nM,nring]
 have e6:=v_lcoming (js:=js) (o:=q.2) (td:=q.1) hz0 hz1 (fun j h=>(qm _).mpr (jo.one j h)) (fun j h=>(qm _).mpr (jo.other j h)) (by omega)
 have nlF:=Jaz (js.filter (coB q.2 z))
 have fxF:fixs ((js.filter (coB q.2 z)).map jt)=(js.filter (coB q.2 z)).map jt:=Qz (fun _=>rfl) _
 have nlR:=nr_nols rs
 have fxR:=nr_fixs rs
 have s6:(sAsg (cLst (Jb (cTup (Jb (cK (.int 0)) (Jb (cTup (Jb (cImm (cVar 1)) (Jb (cFix (Jo Up (aRo (cVar 2) (aRo (cVar 5) (aRo (cVar 3) aNil))))) (Jb (cGet 3) cNil)))) (Jb (cTup (Jb (cImm (cVar 4)) (Jb (cImm (cVar 4)) cNil))) (Jb (cFix (cGet 6)) cNil))))) cNil)) (gSet 15)) (PE T3 ns js z (some (.str a)) (some (dN .m q.1 q.2)) (some (.lst .m (rs.map nr))) (some (.tup (w.map pt))) (some (.str b)) (some (fR own)) (some (.lst .f (more.map jt))) (some (.str bg)) (some ring) none)=.nx (PE T3 ns js z (some (.str a)) (some (dN .m q.1 q.2)) none (some (.tup (w.map pt))) (some (.str b)) (some (fR own)) (some (.lst .f (more.map jt))) (some (.str bg)) (some ring) (some (.lst .m [.tup [.int 0,.tup [.lst .f (ns.map D.str),.lst .f ((js.filter (coB q.2 z)).map jt),.int z],.tup [.str a,.str a],.lst .f (rs.map nr)]]))):=by
  unfold PE
  rw[←dl]at e6
  generalize dN .m q.1 q.2=DN at *
  generalize rs.map nr=RR at *
  generalize w.map pt=WW at *
  generalize fR own=FO at *
  generalize more.map jt=MM at *
  generalize (js.filter (coB q.2 z)).map jt=FF at *
  generalize ns.map D.str=NN at *
  generalize js.map jt=JJ at *
  simp[lj,e6,isn,nlF,fxF,nlR,fxR,z2,z3,z4,z1]
 have hP0:(D.tup [.int 0,.tup [.lst .f (ns.map D.str),.lst .f ((js.filter (coB q.2 z)).map jt),.int z],.tup [.str a,.str a],.lst .f (rs.map nr)])=PP 0 (WF ns (js.filter (coB q.2 z)) z) a a (.lst .f (rs.map nr)):=rfl
 rw[hP0]at s6
 generalize hp0:PP 0 (WF ns (js.filter (coB q.2 z)) z) a a (.lst .f (rs.map nr))=p0 at s6
 have s7:(ZE (cMut 15 kdL Uc (lVar 15) (Jb (cTup (Jb (cK (.int 1)) (Jb (cTup (Jb (cImm (cVar 1)) (Jb (cImm (cVar 12)) (Jb (cGet 3) cNil)))) (Jb (cTup (Jb (cImm (cVar 13)) (Jb (cImm (cVar 13)) cNil))) (Jb (cImm (cVar 14)) cNil))))) cNil))) (PE T3 ns js z (some (.str a)) (some (dN .m q.1 q.2)) none (some (.tup (w.map pt))) (some (.str b)) (some (fR own)) (some (.lst .f (more.map jt))) (some (.str bg)) (some ring) (some (.lst .m [p0])))=.nx (PE T3 ns js z (some (.str a)) (some (dN .m q.1 q.2)) none (some (.tup (w.map pt))) (some (.str b)) (some (fR own)) (some (.lst .f (more.map jt))) (some (.str bg)) (some ring) (some (.lst .m [p0,.tup [.int 1,.tup [.lst .f (ns.map D.str),.lst .f (more.map jt),.int z],.tup [.str bg,.str bg],ring]]))):=by
  have imm:=ZM more
  unfold PE
  generalize dN .m q.1 q.2=DN at *
  generalize w.map pt=WW at *
  generalize fR own=FO at *
  generalize more.map jt=MM at *
  generalize ns.map D.str=NN at *
  generalize js.map jt=JJ at *
  simp[isn,imm,iring,z2,z3,z4,k1]
 have hP1:(D.tup [.int 1,.tup [.lst .f (ns.map D.str),.lst .f (more.map jt),.int z],.tup [.str bg,.str bg],ring])=PP 1 (WF ns more z) bg bg ring:=rfl
 rw[hP1]at s7
 generalize hp1:PP 1 (WF ns more z) bg bg ring=p1 at s7
 obtain⟨w2,T4,e8,hw2,hwl2⟩:=v_lround (a:=a) (.l (f:=jt) (js:=js)) (by omega) T3
 have npw2:=Jek w2
 have s8:(ZE (cMut 15 kdL Uc (lVar 15) (Jb (cTup (Jb (cK (.int 1)) (Jb (cTup (Jb (cImm (cVar 1)) (Jb (cImm (cVar 2)) (Jb (cGet 3) cNil)))) (Jb (cTup (Jb (cImm (cVar 4)) (Jb (cImm (cVar 4)) cNil))) (Jb (Jo ZT (aOw (cMv 0) (some 0) (aRo (cVar 2) (aRo (cVar 4) aNil)))) cNil))))) cNil))) (PE T3 ns js z (some (.str a)) (some (dN .m q.1 q.2)) none (some (.tup (w.map pt))) (some (.str b)) (some (fR own)) (some (.lst .f (more.map jt))) (some (.str bg)) (some ring) (some (.lst .m [p0,p1])))=.nx (PE T4 ns js z (some (.str a)) (some (dN .m q.1 q.2)) none (some (.tup (w.map pt))) (some (.str b)) (some (fR own)) (some (.lst .f (more.map jt))) (some (.str bg)) (some ring) (some (.lst .m [p0,p1,.tup [.int 1,.tup [.lst .f (ns.map D.str),.lst .f (js.map jt),.int z],.tup [.str a,.str a],.tup (w2.map pt)]]))):=by
  unfold PE
  generalize dN .m q.1 q.2=DN at *
  generalize w.map pt=WW at *
  generalize w2.map pt=WW2 at *
  generalize fR own=FO at *
  generalize more.map jt=MM at *
  generalize ns.map D.str=NN at *
  generalize js.map jt=JJ at *
  simp[isn,isj,lj,e8,npw2,z2,z3,z4,k2]
 have hP2:(D.tup [.int 1,.tup [.lst .f (ns.map D.str),.lst .f (js.map jt),.int z],.tup [.str a,.str a],.tup (w2.map pt)])=PP 1 (WF ns js z) a a (.tup (w2.map pt)):=rfl
 rw[hP2]at s8
 generalize hp2:PP 1 (WF ns js z) a a (.tup (w2.map pt))=p2 at s8
 have s9:(ZE (cMut 15 kdL Uc (lVar 15) (Jb (cTup (Jb (cK (.int 2)) (Jb (cTup (Jb (cImm (cVar 1)) (Jb (cImm (cVar 2)) (Jb (cGet 3) cNil)))) (Jb (cTup (Jb (cImm (cVar 4)) (Jb (cImm (cVar 9)) cNil))) (Jb (cImm (cVar 8)) cNil))))) cNil))) (PE T4 ns js z (some (.str a)) (some (dN .m q.1 q.2)) none (some (.tup (w.map pt))) (some (.str b)) (some (fR own)) (some (.lst .f (more.map jt))) (some (.str bg)) (some ring) (some (.lst .m [p0,p1,p2])))=.nx (PE T4 ns js z (some (.str a)) (some (dN .m q.1 q.2)) none (some (.tup (w.map pt))) (some (.str b)) (some (fR own)) (some (.lst .f (more.map jt))) (some (.str bg)) (some ring) (some (.lst .m [p0,p1,p2,.tup [.int 2,.tup [.lst .f (ns.map D.str),.lst .f (js.map jt),.int z],.tup [.str a,.str b],.tup (w.map pt)]]))):=by
  unfold PE
  generalize dN .m q.1 q.2=DN at *
  generalize w.map pt=WW at *
  generalize fR own=FO at *
  generalize more.map jt=MM at *
  generalize ns.map D.str=NN at *
  generalize js.map jt=JJ at *
  simp[isn,isj,ipw,z2,z3,z4,k3]
 have hP3:(D.tup [.int 2,.tup [.lst .f (ns.map D.str),.lst .f (js.map jt),.int z],.tup [.str a,.str b],.tup (w.map pt)])=PP 2 (WF ns js z) a b (.tup (w.map pt)):=rfl
 rw[hP3]at s9
 generalize hp3:PP 2 (WF ns js z) a b (.tup (w.map pt))=p3 at s9
 have hP4:(D.tup [.int 3,.tup [.lst .f (ns.map D.str),.lst .f (js.map jt),.int z],.tup [.str a,.str "last"],fR own])=PP 3 (WF ns js z) a "last" (fR own):=rfl
 have JW:Jw ns js:=⟨jo.one,jo.other,fun j h=>by have:=jo.lo j h;omega,fun j h=>by have:=jo.hi j h;omega⟩
 have wld:∀{js':List Jn},Jw ns js'→js'.length≤81→Wld ns js' z (WF ns js' z):=fun h hl=>⟨⟨_,_,rfl,.f,.f⟩,nd,by omega,hok,h,by omega,hz0,hz1⟩
 have nl:UB ("last" : Str)=true:=by decide +kernel
 have hbn:b∈ns:=by
  have hm:b∈a::l:=List.mem_of_getLast? hb
  have key:∀{w:List (Int × Int)} {x:Str} {l:List Str},wk js x w=some l→x∈ns→∀y∈l,y∈ns:=by
   intro w
   induction w with
   | nil=>intro x l h _ y hy;rw[wk]at h;cases h;cases hy
   | cons p w ih =>
    intro x l h hx y hy
    rw[wk]at h
    cases h1:stp js p x with
    | none=>rw[h1]at h;cases h
    | some c =>
     rw[h1]at h
     simp only at h
     cases h2:wk js c w with
     | none=>rw[h2]at h;cases h
     | some l2 =>
      rw[h2]at h;cases h
      have hc:c∈ns:=stp_mem70 jo h1
      rcases List.mem_cons.mp hy with rfl | hy
      ·exact hc
      ·exact ih h2 hc y hy
  rcases List.mem_cons.mp hm with rfl | hm
  ·exact ha
  ·exact key hw.wk ha b hm
 have q0:Ppr ns z p0:=⟨0,_,a,a,_,by decide,hp0.symm,wld ⟨fun j h=>jo.one j (List.mem_filter.mp h).1,fun j h=>jo.other j (List.mem_filter.mp h).1,fun j h=>JW.lo j (List.mem_filter.mp h).1,fun j h=>JW.hi j (List.mem_filter.mp h).1⟩ (by have:=List.length_filter_le (coB q.2 z) js;omega),hok a ha,hok a ha,_,kd_rows (rs:=rs) (by rw[←hrs,List.length_map,hsl];exact hnl) (fun r hr=>by
   rw[←hrs]at hr
   obtain⟨n,hn,rfl⟩:=List.mem_map.mp hr
   exact hok n ((Uh ns).mem_iff.mp hn)) (fun r hr=>by
   rw[←hrs]at hr
   obtain⟨n,hn,rfl⟩:=List.mem_map.mp hr
   have hb1:=qb n ((qm n).mpr ((Uh ns).mem_iff.mp hn))
   have hq:q.1.length≤20:=Nat.le_trans (Zr qn fun x h=>(qm x).mp h) hnl
   have c:(10000000000000000:Nat)≤10 ^ 31:=by decide
   show (q.2 n).natAbs≤_
   omega),fun _=>by
   have:=rows_right (z:=z) nd jo.one jo.other hz0 q.2
   rw[hrs]at this
   have lr:(D.lst .f (rs.map nr)).lend=.lst .l (rs.map nr):=by show D.lst .l (lends _)=_;rw[lends_nr]
   rw[lr];exact this,fun h=>(by cases h),fun h=>(by cases h)⟩
 have q1:Ppr ns z p1:=⟨1,_,bg,bg,_,by decide,hp1.symm,wld jm hml,hbg,hbg,_,hring,fun h=>(by cases h),fun h=>(by cases h),fun h=>(by cases h)⟩
 have q2:Ppr ns z p2:=⟨1,_,a,a,_,by decide,hp2.symm,wld JW (by omega),hok a ha,hok a ha,_,Jf8 (by decide) (by omega) fun p hp=>⟨⟨(hw2 p hp).1.1,by have:=(hw2 p hp).1.2;omega⟩,(hw2 p hp).2⟩,fun h=>(by cases h),fun h=>(by cases h),fun h=>(by cases h)⟩
 have q3:Ppr ns z p3:=⟨2,_,a,b,_,by decide,hp3.symm,wld JW (by omega),hok a ha,hok b hbn,_,Jf8 (by decide) (by omega) fun p hp=>⟨⟨(hw.rg p hp).1,by have:=(hw.rg p hp).2;omega⟩,by
   have:=List.all_eq_true.mp hw.sd p hp
   unfold sdB at this
   simpa using this⟩,fun h=>(by cases h),fun _ dj hj=>by
   have lw:(D.tup (w.map pt)).lend=.tup (w.map pt):=by show D.tup (lends _)=_;rw[Jad]
   rw[lw,Jdc hj (by omega),hw.okW hb],fun h=>(by cases h)⟩
 have q4:a≠("last" : Str)→Ppr ns z (PP 3 (WF ns js z) a "last" (fR own)):=fun hne=>⟨3,_,a, "last", _,by decide,rfl,wld JW (by omega),hok a ha,nl,_,Jh3 hol (fun n h=>hok n (hos n h)),fun h=>(by cases h),fun h=>(by cases h),fun _ dn dj hn hj=>cls_parted G hoc hos hok hao (fun h=>not_last jo hla ha hne ((G.eqv own hoc a hao _).mp h)) hol (by omega) hn hj⟩
 have i0:=q0.imm
 have i1:=q1.imm
 have i2:=q2.imm
 have i3:=q3.imm
 have i4:(PP 3 (WF ns js z) a "last" (fR own)).imm=true:=Jhd (Jic _ _ _) (JdF _)
 have io:=JdF own
 have pps:imms [p0,p1,p2,p3]=true:=by simp[imms,i0,i1,i2,i3]
 have fin:∀xs:List D,cutD [PP 3 (WF ns js z) a "last" (fR own)] none (some (if a=("last" : Str) then 0 else 1))=xs→Zz [tp T,.lst .f (ns.map D.str),.lst .f (js.map jt),.int z]=.ok (.lst .m ([p0,p1,p2,p3]++xs)) [tp T4,.lst .f (ns.map D.str),.lst .f (js.map jt)]:=fun xs hxs=>by
  have hx:xs=[]∨xs=[PP 3 (WF ns js z) a "last" (fR own)]:=by
   rw[←hxs];split
   ·exact .inl rfl
   ·exact .inr rfl
  have ix:imms xs=true∧xs.length≤1:=by
   rcases hx with rfl | rfl
   ·exact⟨rfl,by decide⟩
   ·exact⟨by simp[imms,i4],by simp⟩
  have pa:=JdU (g:=.m) (g':=.m) pps ix.1 (by have:=ix.2;exact Yh (by simp only[List.length_cons,List.length_nil];omega))
  have s10:(sRet (c2 pAdd (cVar 15) (cSl (cLst (Jb (cTup (Jb (cK (.int 3)) (Jb (cTup (Jb (cImm (cVar 1)) (Jb (cImm (cVar 2)) (Jb (cGet 3) cNil)))) (Jb (cTup (Jb (cImm (cVar 4)) (Jb (cK (.str "last")) cNil))) (Jb (cImm (cVar 10)) cNil))))) cNil)) pNo (pAt (cL JbF (Jb (c2 pNe (cVar 4) (cK (.str "last"))) cNil)))))) (PE T4 ns js z (some (.str a)) (some (dN .m q.1 q.2)) none (some (.tup (w.map pt))) (some (.str b)) (some (fR own)) (some (.lst .f (more.map jt))) (some (.str bg)) (some ring) (some (.lst .m [p0,p1,p2,p3])))=.rt (.lst .m ([p0,p1,p2,p3]++xs)) (PE T4 ns js z (some (.str a)) (some (dN .m q.1 q.2)) none (some (.tup (w.map pt))) (some (.str b)) (some (fR own)) (some (.lst .f (more.map jt))) (some (.str bg)) (some ring) (some (.lst .m [p0,p1,p2,p3]))):=by
   rw[←hP4]at hxs
   clear hx hP4 q4 i4
   have hpn:pNe (.str a) (.str "last")=some (.bl (!decide (a=("last" : Str)))):=by
    show some (D.bl (!(pyEq (.str a) (.str "last"))))=_
    have:(a == ("last" : Str))=decide (a=("last" : Str)):=by by_cases h:a=("last" : Str)<;>simp[h]
    simp only[pyEq,this]
   by_cases hne:a=("last" : Str)
   ·rw[if_pos hne]at hxs
    rw[decide_eq_true hne]at hpn
    unfold PE
    generalize dN .m q.1 q.2=DN at *
    generalize w.map pt=WW at *
    generalize fR own=FO at *
    generalize more.map jt=MM at *
    generalize ns.map D.str=NN at *
    generalize js.map jt=JJ at *
    generalize [p0,p1,p2,p3]++xs=RES at *
    generalize [p0,p1,p2,p3]=PS at *
    simp[isn,isj,io,z2,z3,z4,z1,hpn,hxs,pa]
   ·rw[if_neg hne]at hxs
    rw[decide_eq_false hne]at hpn
    unfold PE
    generalize dN .m q.1 q.2=DN at *
    generalize w.map pt=WW at *
    generalize fR own=FO at *
    generalize more.map jt=MM at *
    generalize ns.map D.str=NN at *
    generalize js.map jt=JJ at *
    generalize [p0,p1,p2,p3]++xs=RES at *
    generalize [p0,p1,p2,p3]=PS at *
    simp[isn,isj,io,z2,z3,z4,z1,hpn,hxs,pa]
  refine JN (env0:=PE T ns js z none none none none none none none none none none) (env:=PE T4 ns js z (some (.str a)) (some (dN .m q.1 q.2)) none (some (.tup (w.map pt))) (some (.str b)) (some (fR own)) (some (.lst .f (more.map jt))) (some (.str bg)) (some ring) (some (.lst .m [p0,p1,p2,p3]))) ⟨rfl,by decide⟩ rfl ?_ rfl
  unfold JbK
  exact Jk s1 (Jk s2 (Jk s3 (Jk s4 (Jk s5 (Jk s6 (Jk s7 (Jk s8 (Jk s9 s10))))))))
 by_cases hne:a=("last" : Str)
 ·refine⟨_,T4,fin [] (by rw[if_pos hne];rfl),fun d hd=>?_,by simp,by simp⟩
  simp only[List.append_nil,List.mem_cons,List.mem_nil_iff,or_false]at hd
  rcases hd with rfl | rfl | rfl | rfl
  ·exact q0
  ·exact q1
  ·exact q2
  ·exact q3
 ·refine⟨_,T4,fin [PP 3 (WF ns js z) a "last" (fR own)] (by rw[if_neg hne];rfl),fun d hd=>?_,by simp,by simp⟩
  simp only[List.cons_append,List.nil_append,List.mem_cons,List.mem_nil_iff,or_false]at hd
  rcases hd with rfl | rfl | rfl | rfl | rfl
  ·exact q0
  ·exact q1
  ·exact q2
  ·exact q3
  ·exact q4 hne
end
end VS
namespace VS
open PySem L2 SeqAt
theorem cut_neg1 (xs:List D) (x:D):cutD (xs++[x]) none (some (-1))=xs:=by
 have e:HT.sIx (xs++[x]).length (xs++[x]).length (some (-1))=xs.length:=by
  show (if (-1:Int) < 0 then ((-1:Int)+((xs++[x]).length:Int)).toNat else min (-1:Int).toNat (xs++[x]).length)=xs.length
  rw[if_pos (by decide),List.length_append]
  simp only[List.length_singleton];omega
 unfold cutD
 rw[HT.sIx_none,e]
 simp
section
variable {ns:List Str} {js:List Jn} {z:Int} {a b:Str} {ps:List D}
def LE (sc:D) (k:Option D) (T:Tp) (ns:List Str) (z:Int) (js:List Jn) (ps:List D) (o7 o8 o9 o10 o11 o12:Option D):Env:=[some sc,k,some (tp T),some (.lst .f (ns.map D.str)),some (.int z),some (.lst .f (js.map jt)),some (.lst .m ps),o7,o8,o9,o10,o11,o12]
theorem Jgn (a b:Str):(EN70 a b).lend=EN70 a b:=rfl
theorem Ppr.nol {d:D} (h:Ppr ns z d):d.nol=true:=by
 obtain⟨w,P,a,b,js,_,rfl,_,_,_,e,k,_⟩:=h
 have h1:=Qv ns
 have h2:=Jaz js
 have h3:=k.rz.no
 show (true && (((((Fl.f == .m || Fl.f == .f) && nols (ns.map D.str)) && (((Fl.f == .m || Fl.f == .f) && nols (js.map jt)) && (true && true)))) && ((true && (true && true)) && (P.nol && true))))=true
 rw[h1,h2,h3];rfl
theorem chk70 {d:D} (hp:Ppr ns z d) (sc:D) (k:Option D) (T:Tp) (o7 o8 o9 o10 o11 o12:Option D) :
  ∃env1 p8 p9 p10 p11,JI 4 (Je (gSet 8) (Je (gSet 9) (Je (gSet 10) (Je (gSet 11) JL)))) d (LE sc k T ns z js ps o7 o8 o9 o10 o11 o12)=some env1∧Jdp env1=.nx (LE sc k T ns z js ps o7 p8 p9 p10 p11 o12):=by
 obtain⟨w,P,a,b,js',hw,rfl,hW,ha,hb,e,hk,hr⟩:=hp
 refine⟨LE sc k T ns z js ps o7 (some (.int (w:Nat))) (some (WF ns js' z)) (some (EN70 a b)) (some P) o12,some (.int (w:Nat)),some (WF ns js' z),some (EN70 a b),some P,rfl,?_⟩
 obtain⟨v,e1,e2,v0,v2,v3⟩:=JfC hw hW ha hb (hk.kd (by decide))
 have lE:=Jgn a b
 have hv:w≠1→v=true:=fun h1=>by
  have hc:w=0∨w=2∨w=3:=by omega
  rcases hc with rfl | rfl | rfl
  ·rw[v0 rfl];exact hr.1 rfl
  ·obtain⟨dj,hj,q⟩:=v2 rfl
   rw[hr.2.1 rfl dj hj]at q
   injection q with q;injection q with q;exact q.symm
  ·obtain⟨dn,dj,hn,hj,q⟩:=v3 rfl
   rw[hr.2.2 rfl dn dj hn hj]at q
   injection q with q;injection q with q;exact q.symm
 unfold Jdp
 refine Jk (env1:=LE sc k T ns z js ps o7 (some (.int (w:Nat))) (some (WF ns js' z)) (some (EN70 a b)) (some P) o12) ?_ ?_
 ·unfold LE
  generalize WF ns js' z=W at *
  generalize EN70 a b=E at *
  generalize ns.map D.str=NN
  generalize js.map jt=JJ
  simp[lE,e1]
 ·by_cases h1:w=1
  ·subst h1
   unfold LE
   generalize WF ns js' z=W at *
   generalize EN70 a b=E at *
   generalize ns.map D.str=NN
   generalize js.map jt=JJ
   simp
  ·have:=hv h1
   subst this
   have hne:pNe (.int (w:Nat)) (.int 1)=some (.bl true):=by
    have:¬ ((w:Nat):Int)=1:=by omega
    simp[this]
   have a0:atI [D.bl true,.bl true] 0=some (.bl true):=rfl
   have is:ZY (.bl true) (.bl true)=some (.bl false):=rfl
   have wl:(D.int (w:Nat)).lend=.int (w:Nat):=rfl
   unfold LE
   generalize WF ns js' z=W at *
   generalize EN70 a b=E at *
   generalize ns.map D.str=NN
   generalize js.map jt=JJ
   generalize D.int (w:Nat)=WI at *
   simp[lE,hne,e2,a0,is,wl]
theorem again70 (nd:ns.Nodup) (hnl:ns.length≤20) (hok:∀n∈ns,UB n=true) (hps:∀d∈ps,Ppr ns z d) (hp0:0 < ps.length) (hp5:ps.length≤5) (sc:D) (k:Option D) (T:Tp) (o7 o8 o9 o10 o11 o12:Option D) :
  ∃T' p8 p9 p10 p11 p12,Jdr (LE sc k T ns z js ps o7 o8 o9 o10 o11 o12)=.nx (LE sc k T' ns z js ps o7 p8 p9 p10 p11 p12):=by
 have hpI:(0:Int) < (ps.length:Int):=by omega
 have d1:=YJ T hpI (by omega)
 obtain⟨d,hd,ed⟩:=Jea (xs:=ps) (Zy (t:=T) hpI) (UA (t:=T) hpI)
 generalize drV T (ps.length:Int)=r1 at *
 generalize drT T (ps.length:Int)=T1 at *
 have hdi:=(hps d hd).imm
 obtain⟨w,P,a,b,js',hw,rfl,hW,ha,hb,e,hk,hr⟩:=hps d hd
 have hz:ps.length≤sizeLine:=Yh (by omega)
 have z3:3≤sizeLine:=Yh (by decide)
 have s1:(sAsg (cImm (cIdx (cVar 6) (Jo Jf (aOw (cMv 2) (some 2) (aRo (cL pLen (Jb (cVar 6) cNil)) aNil))))) (JI 4 (Je (gSet 8) (Je (gSet 9) (Je (gSet 10) (Je (gSet 11) JL)))))) (LE sc k T ns z js ps o7 o8 o9 o10 o11 o12)=.nx (LE sc k T1 ns z js ps o7 (some (.int (w:Nat))) (some (WF ns js' z)) (some (EN70 a b)) (some P) o12):=by
  unfold PP at hdi ed
  unfold LE
  generalize WF ns js' z=W at *
  generalize EN70 a b=E at *
  generalize ns.map D.str=NN
  generalize js.map jt=JJ
  generalize D.int (w:Nat)=WI at *
  simp[hz,d1,ed,hdi]
 have d2:=YJ T1 (m:=2) (by decide) (by decide)
 generalize drV T1 2=r2 at *
 generalize drT T1 2=T2 at *
 obtain⟨W,hW',s2⟩:∃W,Wld ns js' z W∧(sIf (cTt (c2 pEq (Jo Jf (aOw (cMv 2) (some 2) (aRo (cK (.int 2)) aNil))) (cK (.int 0)))) (sAsg (cTup (Jb (cL JaL (Jb (cIdx (cVar 9) (cK (.int 0))) cNil)) (Jb (cL JaL (Jb (cIdx (cVar 9) (cK (.int 1))) cNil)) (Jb (cGet 4) cNil)))) (gSet 9)) sNil) (LE sc k T1 ns z js ps o7 (some (.int (w:Nat))) (some (WF ns js' z)) (some (EN70 a b)) (some P) o12)=.nx (LE sc k T2 ns z js ps o7 (some (.int (w:Nat))) (some W) (some (EN70 a b)) (some P) o12):=by
  by_cases hr2:r2=0
  ·refine⟨.tup [.tup (ns.map D.str),.tup (js'.map jt),.int z],⟨⟨_,_,rfl,.t,.t⟩,hW.nd,hW.nl,hW.ok,hW.jo,hW.jl,hW.z0,hW.z1⟩,?_⟩
   have isn:=Zg ns
   have isj:=ZM js'
   have hnz:(ns.map D.str).length≤sizeLine:=by rw[List.length_map];exact Yh (by omega)
   have hjz:(js'.map jt).length≤sizeLine:=by rw[List.length_map];exact Yh (by have:=hW.jl;omega)
   have a0:∀x y q:D,atI [x,y,q] 0=some x:=fun _ _ _=>rfl
   have a1:∀x y q:D,atI [x,y,q] 1=some y:=fun _ _ _=>rfl
   unfold LE WF
   generalize EN70 a b=E at *
   generalize ns.map D.str=NN at *
   generalize js.map jt=JJ at *
   generalize js'.map jt=JK at *
   simp[d2,hr2,isn,isj,hnz,hjz,a0,a1,z3]
  ·refine⟨_,hW,?_⟩
   unfold LE
   generalize WF ns js' z=W at *
   generalize EN70 a b=E at *
   generalize ns.map D.str=NN at *
   generalize js.map jt=JJ at *
   simp[d2,hr2]
 have d3:=YJ T2 (m:=3) (by decide) (by decide)
 generalize drV T2 3=r3 at *
 generalize drT T2 3=T3 at *
 obtain⟨m,hm,hrng⟩:∃m:Nat,m≤2∧ZP [.int (1+(if r3=0 then 1 else 0))]=some ((List.range m).map fun i:Nat=>D.int (i:Nat)):=by
  by_cases h:r3=0
  ·exact⟨2,by decide,by rw[if_pos h];exact JcY 2 (by decide) (by decide)⟩
  ·exact⟨1,by decide,by rw[if_neg h];exact JcY 1 (by decide) (by decide)⟩
 have lns:=Zq ns
 have loop:=QD (f:=fun i:Nat=>D.int i) (g:=gSet 12) (body:=Jds)
  (P:=fun rest env=>∃j T P e o12,j+rest.length≤2∧KdJ j w P e∧env=LE sc k T ns z js ps o7 (some (.int (w:Nat))) (some W) (some (EN70 a b)) (some P) o12)
  (fun i rest env ⟨j,T,P,e,o12,hj,hk,he⟩=>by
   subst he
   simp only[List.length_cons]at hj
   obtain⟨R,T',e1,rn,hk'⟩:=spoil_j (ns:=ns) hok (by omega) (by omega) hk T
   refine⟨LE sc k T ns z js ps o7 (some (.int (w:Nat))) (some W) (some (EN70 a b)) (some P) (some (.int (i:Nat))),LE sc k T' ns z js ps o7 (some (.int (w:Nat))) (some W) (some (EN70 a b)) (some R.fix) (some (.int (i:Nat))),rfl,?_,j+1,T',R.fix,R.fix.thaw,_,by omega,hk',rfl⟩
   have lf:(D.lst .f (ns.map D.str)).lend=.lst .l (ns.map D.str):=by show D.lst .l (lends _)=_;rw[lns]
   have pno:=hk.rz.no
   unfold Jds LE
   generalize hRF:R.fix=RF at *
   generalize EN70 a b=E at *
   generalize ns.map D.str=NN at *
   generalize js.map jt=JJ at *
   simp[lf,e1,rn,hRF,pno])
  (List.range m) (LE sc k T3 ns z js ps o7 (some (.int (w:Nat))) (some W) (some (EN70 a b)) (some P) o12) ⟨0,T3,P,e,o12,by simp;omega,hk,rfl⟩
 obtain⟨env',k1,j,T4,P4,e4,p12,hj,hk4,rfl⟩:=loop
 have s3:(sFor (ZH (Jb (c2 pAdd (cK (.int 1)) (cL JbF (Jb (c2 pEq (Jo Jf (aOw (cMv 2) (some 2) (aRo (cK (.int 3)) aNil))) (cK (.int 0))) cNil))) cNil)) (gSet 12) Jds) (LE sc k T2 ns z js ps o7 (some (.int (w:Nat))) (some W) (some (EN70 a b)) (some P) o12)=.nx (LE sc k T4 ns z js ps o7 (some (.int (w:Nat))) (some W) (some (EN70 a b)) (some P4) p12):=by
  have src:ZH (Jb (c2 pAdd (cK (.int 1)) (cL JbF (Jb (c2 pEq (Jo Jf (aOw (cMv 2) (some 2) (aRo (cK (.int 3)) aNil))) (cK (.int 0))) cNil))) cNil) (LE sc k T2 ns z js ps o7 (some (.int (w:Nat))) (some W) (some (EN70 a b)) (some P) o12)=.ok ((List.range m).map fun i:Nat=>D.int (i:Nat)) (LE sc k T3 ns z js ps o7 (some (.int (w:Nat))) (some W) (some (EN70 a b)) (some P) o12):=by
   unfold LE
   generalize EN70 a b=E at *
   generalize ns.map D.str=NN at *
   generalize js.map jt=JJ at *
   by_cases h:r3=0
   ·rw[if_pos h]at hrng
    have h2:ZP [.int 2]=some ((List.range m).map fun i:Nat=>D.int (i:Nat)):=by simpa using hrng
    simp[d3,h,h2]
   ·rw[if_neg h]at hrng
    have h2:ZP [.int 1]=some ((List.range m).map fun i:Nat=>D.int (i:Nat)):=by simpa using hrng
    simp[d3,h,h2]
  unfold sFor;rw[src];exact k1
 obtain⟨v,e1,_⟩:=JfC hw hW' ha hb (hk4.kd (by omega))
 have lE:=Jgn a b
 refine⟨T4,some (.int (w:Nat)),some W,some (EN70 a b),some P4,p12,?_⟩
 unfold Jdr
 refine Jk s1 (Jk s2 (Jk s3 ?_))
 unfold LE
 generalize EN70 a b=E at *
 generalize ns.map D.str=NN
 generalize js.map jt=JJ
 simp[lE,e1]
end
theorem v_round70 (sc:List Int) (k:Nat) (o2 o3 o4 o5 o6 o7 o8 o9 o10 o11 o12:Option D):∃p2 p3 p4 p5 p6 p7 p8 p9 p10 p11 p12,Jdf [some (.lst .l (sc.map D.int)),some (.int (k:Nat)),o2,o3,o4,o5,o6,o7,o8,o9,o10,o11,o12]=.nx [some (.lst .l (sc.map D.int)),some (.int (k:Nat)),p2,p3,p4,p5,p6,p7,p8,p9,p10,p11,p12]:=by
 obtain⟨T0,t1⟩:=v_tape sc k
 obtain⟨ns0,T1,t2,w⟩:=v_names T0
 obtain⟨z,T2,t3,hz0,hz1⟩:=v_turn T1
 generalize hns:ns0++[("last" : Str)]=nn
 have hnl:nn.length≤20:=by rw[←hns];have:=w.len;simp;omega
 have h0:0 < nn.length:=by rw[←hns];simp
 have hnot:∀x∈ns0,x≠("last" : Str):=fun x hx e=>by
  subst e
  exact absurd (w.lit _ hx) (by decide +kernel)
 have nd:nn.Nodup:=by
  rw[←hns]
  refine List.nodup_append.mpr ⟨w.nd,by simp,fun x hx y hy e=>?_⟩
  rw[List.mem_singleton]at hy
  subst hy
  exact hnot x hx e
 have hok:∀n∈nn,UB n=true:=fun n hn=>by
  rw[←hns]at hn
  rcases List.mem_append.mp hn with h | h
  ·exact w.ok n h
  ·rw[List.mem_singleton.mp h];decide +kernel
 have fn:fixs (nn.map D.str)=nn.map D.str:=Qz (fun _=>rfl) _
 have im0:=Zg ns0
 have imn:=Zg nn
 have nl0:=Qv ns0
 have hz:ns0.length+1≤sizeLine:=Yh (by have:=w.len;omega)
 have enn:ns0.map D.str++[D.str "last"]=nn.map D.str:=by rw[←hns,List.map_append];rfl
 have hnz:nn.length≤sizeLine:=Yh (by omega)
 have hns0:(ns0.map D.str).length=ns0.length:=List.length_map _
 have hnn:(nn.map D.str).length=nn.length:=List.length_map _
 have hln:nn.length=ns0.length+1:=by rw[←hns];simp
 obtain⟨js,T3,jo,hjl,hla,s4⟩:∃js T3,JOk nn js∧js.length≤80∧(∀j∈js,j.1≠("last" : Str)∧j.2.1≠("last" : Str))∧(sAsg (cFix (cIf (cTt (c2 pGtG (cL pLen (Jb (cVar 3) cNil)) (cK (.int 1)))) (Jo Un (aOw (cMv 2) (some 2) (aRo (cSl (cVar 3) pNo (pAt (c1 pNeg (cK (.int 1))))) (aRo (cVar 4) aNil)))) (cLst cNil))) (gSet 5)) [some (.lst .l (sc.map D.int)),some (.int (k:Nat)),some (tp T2),some (.lst .f (nn.map D.str)),some (.int z),o5,o6,o7,o8,o9,o10,o11,o12]=.nx [some (.lst .l (sc.map D.int)),some (.int (k:Nat)),some (tp T3),some (.lst .f (nn.map D.str)),some (.int z),some (.lst .f (js.map jt)),o6,o7,o8,o9,o10,o11,o12]:=by
  by_cases h1:1 < nn.length
  ·obtain⟨js,T3,t4,jo,hjl⟩:=v_joinings T2 (ns:=ns0) (t:=z) (by omega) ⟨hz0,hz1⟩
   have sub:∀x∈ns0,x∈nn:=fun x h=>by rw[←hns];exact List.mem_append_left _ h
   refine⟨js,T3,⟨fun j h=>sub _ (jo.one j h),fun j h=>sub _ (jo.other j h),jo.lo,jo.hi⟩,hjl,fun j h=>⟨hnot _ (jo.one j h),hnot _ (jo.other j h)⟩,?_⟩
   have fj:fixs (js.map jt)=js.map jt:=Qz (fun _=>rfl) _
   have nj:=Jaz js
   have ls0:=Zq ns0
   have cu:cutD (nn.map D.str) none (some (-1))=ns0.map D.str:=by
    rw[←enn]
    have:=cut_neg1 (ns0.map D.str) (D.str "last")
    exact this
   have h1':(1:Int) < ((nn.length:Nat):Int):=by omega
   generalize nn.map D.str=NN at *
   generalize ns0.map D.str=NN0 at *
   generalize js.map jt=JJ at *
   simp[hnn,hnz,h1',imn,cu,im0,ls0,t4,nj,fj]
  ·refine⟨[],T2,⟨(fun _ h=>nomatch h),(fun _ h=>nomatch h),(fun _ h=>nomatch h),(fun _ h=>nomatch h)⟩,by decide,(fun _ h=>nomatch h),?_⟩
   have h1':¬ (1:Int) < ((nn.length:Nat):Int):=by omega
   generalize nn.map D.str=NN at *
   simp[hnn,hnz,h1']
 obtain⟨ps,T4,e5,hps,hp0,hp5⟩:=v_lpapers nd hnl h0 hok jo hjl hz0 hz1 hla T3
 obtain⟨env1,f1,hh1,o8',o9',o10',o11',hE1⟩:=QD (f:=fun d:D=>d) (g:=JI 4 (Je (gSet 8) (Je (gSet 9) (Je (gSet 10) (Je (gSet 11) JL))))) (body:=Jdp)
  (P:=fun rest env=>(∀d∈rest,Ppr nn z d)∧∃o8 o9 o10 o11,env=LE (.lst .l (sc.map D.int)) (some (.int (k:Nat))) T4 nn z js ps o7 o8 o9 o10 o11 o12)
  (fun d rest env ⟨hr,o8,o9,o10,o11,he⟩=>by
   subst he
   obtain⟨env1,p8,p9,p10,p11,g1,b1⟩:=chk70 (js:=js) (ps:=ps) (hr d (by simp)) (.lst .l (sc.map D.int)) (some (.int (k:Nat))) T4 o7 o8 o9 o10 o11 o12
   exact⟨_,_,g1,b1,fun d h=>hr d (by simp[h]),_,_,_,_,rfl⟩)
  ps (LE (.lst .l (sc.map D.int)) (some (.int (k:Nat))) T4 nn z js ps o7 o8 o9 o10 o11 o12) ⟨hps,_,_,_,_,rfl⟩
 subst hE1
 obtain⟨env2,f2,T5,p7,p8,p9,p10,p11,p12,hE2⟩:=QD (f:=fun i:Nat=>D.int i) (g:=gSet 7) (body:=Jdr)
  (P:=fun _ env=>∃T o7 o8 o9 o10 o11 o12,env=LE (.lst .l (sc.map D.int)) (some (.int (k:Nat))) T nn z js ps o7 o8 o9 o10 o11 o12)
  (fun i rest env ⟨T,o7,o8,o9,o10,o11,o12,he⟩=>by
   subst he
   obtain⟨T',p8,p9,p10,p11,p12,b1⟩:=again70 (js:=js) nd hnl hok hps hp0 hp5 (.lst .l (sc.map D.int)) (some (.int (k:Nat))) T (some (.int (i:Nat))) o8 o9 o10 o11 o12
   exact⟨_,_,rfl,b1,_,_,_,_,_,_,_,rfl⟩)
  (List.range 12) (LE (.lst .l (sc.map D.int)) (some (.int (k:Nat))) T4 nn z js ps o7 o8' o9' o10' o11' o12) ⟨_,_,_,_,_,_,_,rfl⟩
 subst hE2
 refine⟨some (tp T5),some (.lst .f (nn.map D.str)),some (.int z),some (.lst .f (js.map jt)),some (.lst .m ps),p7,p8,p9,p10,p11,p12,?_⟩
 unfold Jdf
 refine Jk (env1:=[some (.lst .l (sc.map D.int)),some (.int (k:Nat)),some (tp T0),o3,o4,o5,o6,o7,o8,o9,o10,o11,o12]) (by simp[t1]) ?_
 refine Jk (env1:=[some (.lst .l (sc.map D.int)),some (.int (k:Nat)),some (tp T1),some (.lst .f (nn.map D.str)),o4,o5,o6,o7,o8,o9,o10,o11,o12]) ?_ ?_
 ·generalize ns0.map D.str=NN0 at *
  generalize nn.map D.str=NN at *
  simp[t2,im0,nl0,hns0,hz,enn,fn]
 refine Jk (env1:=[some (.lst .l (sc.map D.int)),some (.int (k:Nat)),some (tp T2),some (.lst .f (nn.map D.str)),some (.int z),o5,o6,o7,o8,o9,o10,o11,o12]) (by simp[t3]) ?_
 refine Jk s4 ?_
 refine Jk (env1:=LE (.lst .l (sc.map D.int)) (some (.int (k:Nat))) T4 nn z js ps o7 o8 o9 o10 o11 o12) ?_ ?_
 ·have nps:nols ps=true:=ZU fun d h=>(hps d h).nol
  have nn1:=Qv nn
  have nj1:=Jaz js
  unfold LE
  generalize nn.map D.str=NN at *
  generalize js.map jt=JJ at *
  simp[e5,nps,nn1,nj1]
 refine Jk (env1:=LE (.lst .l (sc.map D.int)) (some (.int (k:Nat))) T4 nn z js ps o7 o8' o9' o10' o11' o12) ?_ ?_
 ·have ips:imms ps=true:=Zh fun d h=>(hps d h).imm
  have src:JB (cVar 6) (LE (.lst .l (sc.map D.int)) (some (.int (k:Nat))) T4 nn z js ps o7 o8 o9 o10 o11 o12)=.ok (ps.map fun d=>d) (LE (.lst .l (sc.map D.int)) (some (.int (k:Nat))) T4 nn z js ps o7 o8 o9 o10 o11 o12):=by
   rw[List.map_id']
   unfold LE
   generalize nn.map D.str=NN at *
   generalize js.map jt=JJ at *
   simp[ips]
  have hpz:(ps.map fun d=>d).length≤sizeLine:=by rw[List.length_map];exact Yh (by omega)
  unfold sFor
  rw[src]
  simp only[hpz,if_true,f1]
 ·have hr12:ZP [.int 12]=some ((List.range 12).map fun i:Nat=>D.int (i:Nat)):=JcY 12 (by decide) (by decide)
  have src:ZH (Jb (cK (.int 12)) cNil) (LE (.lst .l (sc.map D.int)) (some (.int (k:Nat))) T4 nn z js ps o7 o8' o9' o10' o11' o12)=.ok ((List.range 12).map fun i:Nat=>D.int (i:Nat)) (LE (.lst .l (sc.map D.int)) (some (.int (k:Nat))) T4 nn z js ps o7 o8' o9' o10' o11' o12):=by simp[hr12]
  unfold sFor;rw[src];exact f2
theorem v_law (ns:List Int) (h:ns.length≤63):Jg8 [.lst .l (ns.map D.int)]=.ok (.bl true) []:=by
 have hl:ns.length≤sizeLine:=UY (by omega)
 obtain⟨env',f1,f2⟩:=QD (f:=fun i:Nat=>D.int (i:Nat)) (g:=gSet 1) (body:=Jdf) (P:=fun _ env=>∃o1 o2 o3 o4 o5 o6 o7 o8 o9 o10 o11 o12,env=[some (.lst .l (ns.map D.int)),o1,o2,o3,o4,o5,o6,o7,o8,o9,o10,o11,o12]) (by
  rintro k rest env ⟨o1,o2,o3,o4,o5,o6,o7,o8,o9,o10,o11,o12,rfl⟩
  obtain⟨p2,p3,p4,p5,p6,p7,p8,p9,p10,p11,p12,e⟩:=v_round70 ns k o2 o3 o4 o5 o6 o7 o8 o9 o10 o11 o12
  exact⟨_,_,rfl,e,_,_,_,_,_,_,_,_,_,_,_,_,rfl⟩) (List.range (1+(if (ns.length:Int) < 6 then (ns.length:Int) else 6)).toNat) [some (.lst .l (ns.map D.int)),none,none,none,none,none,none,none,none,none,none,none,none] ⟨_,_,_,_,_,_,_,_,_,_,_,_,rfl⟩
 obtain⟨o1,o2,o3,o4,o5,o6,o7,o8,o9,o10,o11,o12,rfl⟩:=f2
 have hr:=JcY (1+(if (ns.length:Int) < 6 then (ns.length:Int) else 6)) (by split<;>omega) (by split<;>omega)
 have e:JhQ [some (.lst .l (ns.map D.int)),none,none,none,none,none,none,none,none,none,none,none,none]=.rt (.bl true) [some (.lst .l (ns.map D.int)),o1,o2,o3,o4,o5,o6,o7,o8,o9,o10,o11,o12]:=by
  unfold JhQ
  refine Jk (env1:=[some (.lst .l (ns.map D.int)),o1,o2,o3,o4,o5,o6,o7,o8,o9,o10,o11,o12]) (by simp[hr,f1]) ?_
  simp
 exact JN ⟨rfl,by decide⟩ rfl e rfl
end VS
namespace VS
open PySem L2 SeqAt PySem.Spec PyProof.Rows
theorem endZ {w:World} {mg:Str→Option Value} {fa:Addr} {h:Heap} (Y:hkZ.says w h) (G:h.Ns mainGlobals mg) (hfa:mg "law" = some (.ref fa)) :
  ∃K:PySem.W.Frag,K.In h∧∃fd:FuncData,(∀(s:Shared) (v:Value),BindsTo s fd ⟨[v],[]⟩ [("_law_script", v)])∧∀base:Heap,K.In base→base.Ns mainGlobals mg→FnG PySem.Challenge.rw_joinback_k70_whole_papers_spoilt_anywher.prog w K mg base 15 fa fd ["_law_script"] (Jf2 K):=by
 obtain⟨K,X,cZ⟩:=Y
 have c1:∀b∈(obZ K).1,b=true:=by rw[cZ];simp[valZ]
 have q0:(qz0 K).all id=true:=c1 _ (List.mem_of_getElem? (i:=0) rfl)
 have q1:(qz1 K).all id=true:=c1 _ (List.mem_of_getElem? (i:=1) rfl)
 have q2:(qz2 K).all id=true:=c1 _ (List.mem_of_getElem? (i:=2) rfl)
 have q3:(qz3 K).all id=true:=c1 _ (List.mem_of_getElem? (i:=3) rfl)
 have e0:(cz0 K).all id=true:=c1 _ (List.mem_of_getElem? (i:=4) rfl)
 have e1:(cz1 K).all id=true:=c1 _ (List.mem_of_getElem? (i:=5) rfl)
 have c2:(obZ K).2.1=(valZ w).2.1:=by rw[cZ]
 have c3:(obZ K).2.2=(valZ w).2.2:=by rw[cZ]
 obtain⟨oc1,od1,sl1,kV1,dc1,pm1,an1,cd1,ct1,l1,k1⟩:=Yc (d:=Jij) c2 0 rfl rfl (JZ e0 0 rfl)
 obtain⟨oc2,od2,sl2,kV2,dc2,pm2,an2,cd2,ct2,l2,k2⟩:=Yc (d:=Jiu) c2 1 rfl rfl (JZ e0 1 rfl)
 obtain⟨oc3,od3,sl3,kV3,dc3,pm3,an3,cd3,ct3,l3,k3⟩:=Yc (d:=Jir) c2 2 rfl rfl (JZ e0 2 rfl)
 obtain⟨oc4,od4,sl4,kV4,dc4,pm4,an4,cd4,ct4,l4,k4⟩:=Yc (d:=JiI) c2 3 rfl rfl (JZ e0 3 rfl)
 obtain⟨oc5,od5,sl5,kV5,dc5,pm5,an5,cd5,ct5,l5,k5⟩:=Yc (d:=JiM) c2 4 rfl rfl (JZ e0 4 rfl)
 obtain⟨oc6,od6,sl6,kV6,dc6,pm6,an6,cd6,ct6,l6,k6⟩:=Yc (d:=Jit) c2 5 rfl rfl (JZ e0 5 rfl)
 obtain⟨oc7,od7,sl7,kV7,dc7,pm7,an7,cd7,ct7,l7,k7⟩:=Yc (d:=Jiq) c2 6 rfl rfl (JZ e0 6 rfl)
 obtain⟨oc8,od8,sl8,kV8,dc8,pm8,an8,cd8,ct8,l8,k8⟩:=Yc (d:=JiA) c2 7 rfl rfl (JZ e0 7 rfl)
 obtain⟨oc9,od9,sl9,kV9,dc9,pm9,an9,cd9,ct9,l9,k9⟩:=Yc (d:=Jio) c2 8 rfl rfl (JZ e0 8 rfl)
 obtain⟨oc10,od10,sl10,kV10,dc10,pm10,an10,cd10,ct10,l10,k10⟩:=Yc (d:=Jhg) c2 9 rfl rfl (JZ e0 9 rfl)
 obtain⟨oc11,od11,sl11,kV11,dc11,pm11,an11,cd11,ct11,l11,k11⟩:=Yc (d:=Jhn) c2 10 rfl rfl (JZ e0 10 rfl)
 obtain⟨oc12,od12,sl12,kV12,dc12,pm12,an12,cd12,ct12,l12,k12⟩:=Yc (d:=Jg6) c2 11 rfl rfl (JZ e0 11 rfl)
 obtain⟨oc13,od13,sl13,kV13,dc13,pm13,an13,cd13,ct13,l13,k13⟩:=Yc (d:=Jht) c2 12 rfl rfl (JZ e0 12 rfl)
 obtain⟨oc14,od14,sl14,kV14,dc14,pm14,an14,cd14,ct14,l14,k14⟩:=Yc (d:=JhJ) c2 13 rfl rfl (JZ e0 13 rfl)
 obtain⟨oc15,od15,sl15,kV15,dc15,pm15,an15,cd15,ct15,l15,k15⟩:=Yc (d:=JhE) c2 14 rfl rfl (JZ e0 14 rfl)
 obtain⟨oc16,od16,sl16,kV16,dc16,pm16,an16,cd16,ct16,l16,k16⟩:=Yc (d:=JhA) c2 15 rfl rfl (JZ e0 15 rfl)
 obtain⟨oc17,od17,sl17,kV17,dc17,pm17,an17,cd17,ct17,l17,k17⟩:=Yc (d:=Jie) c2 16 rfl rfl (JZ e0 16 rfl)
 obtain⟨oc18,od18,sl18,kV18,dc18,pm18,an18,cd18,ct18,l18,k18⟩:=Yc (d:=JhV) c2 17 rfl rfl (JZ e0 17 rfl)
 obtain⟨oc19,od19,sl19,kV19,dc19,pm19,an19,cd19,ct19,l19,k19⟩:=Yc (d:=Jg9) c2 18 rfl rfl (JZ e0 18 rfl)
 obtain⟨oc20,od20,sl20,kV20,dc20,pm20,an20,cd20,ct20,l20,k20⟩:=Yc (d:=Jh8) c2 19 rfl rfl (JZ e0 19 rfl)
 obtain⟨oc21,od21,sl21,kV21,dc21,pm21,an21,cd21,ct21,l21,k21⟩:=Yc (d:=Jhc) c2 20 rfl rfl (JZ e0 20 rfl)
 obtain⟨oc22,od22,sl22,kV22,dc22,pm22,an22,cd22,ct22,l22,k22⟩:=Yc (d:=Jhp) c2 21 rfl rfl (JZ e0 21 rfl)
 obtain⟨oc23,od23,sl23,kV23,dc23,pm23,an23,cd23,ct23,l23,k23⟩:=Yc (d:=Jho) c2 22 rfl rfl (JZ e0 22 rfl)
 obtain⟨oc24,od24,sl24,kV24,dc24,pm24,an24,cd24,ct24,l24,k24⟩:=Yc (d:=Jg4) c2 23 rfl rfl (JZ e0 23 rfl)
 obtain⟨oc25,od25,sl25,kV25,dc25,pm25,an25,cd25,ct25,l25,k25⟩:=Yc (d:=Jhr) c2 24 rfl rfl (JZ e0 24 rfl)
 obtain⟨oc26,od26,sl26,kV26,dc26,pm26,an26,cd26,ct26,l26,k26⟩:=Yc (d:=JhY) c2 25 rfl rfl (JZ e0 25 rfl)
 obtain⟨oc27,od27,sl27,kV27,dc27,pm27,an27,cd27,ct27,l27,k27⟩:=Yc (d:=JhG) c2 26 rfl rfl (JZ e0 26 rfl)
 obtain⟨oc28,od28,sl28,kV28,dc28,pm28,an28,cd28,ct28,l28,k28⟩:=Yc (d:=JhT) c2 27 rfl rfl (JZ e0 27 rfl)
 obtain⟨oc29,od29,sl29,kV29,dc29,pm29,an29,cd29,ct29,l29,k29⟩:=Yc (d:=Jhq) c2 28 rfl rfl (JZ e0 28 rfl)
 obtain⟨oc30,od30,sl30,kV30,dc30,pm30,an30,cd30,ct30,l30,k30⟩:=Yc (d:=JhM) c2 29 rfl rfl (JZ e0 29 rfl)
 obtain⟨oc31,od31,sl31,kV31,dc31,pm31,an31,cd31,ct31,l31,k31⟩:=Yc (d:=JhH) c2 30 rfl rfl (JZ e1 0 rfl)
 obtain⟨oc32,od32,sl32,kV32,dc32,pm32,an32,cd32,ct32,l32,k32⟩:=Yc (d:=Jhf) c2 31 rfl rfl (JZ e1 1 rfl)
 obtain⟨oc33,od33,sl33,kV33,dc33,pm33,an33,cd33,ct33,l33,k33⟩:=Yc (d:=JhC) c2 32 rfl rfl (JZ e1 2 rfl)
 obtain⟨oc34,od34,sl34,kV34,dc34,pm34,an34,cd34,ct34,l34,k34⟩:=Yc (d:=Jhv) c2 33 rfl rfl (JZ e1 3 rfl)
 obtain⟨oc35,od35,sl35,kV35,dc35,pm35,an35,cd35,ct35,l35,k35⟩:=Yc (d:=Jhs) c2 34 rfl rfl (JZ e1 4 rfl)
 obtain⟨oc36,od36,sl36,kV36,dc36,pm36,an36,cd36,ct36,l36,k36⟩:=Yc (d:=JhP) c2 35 rfl rfl (JZ e1 5 rfl)
 obtain⟨oc37,od37,sl37,kV37,dc37,pm37,an37,cd37,ct37,l37,k37⟩:=Yc (d:=JhS) c2 36 rfl rfl (JZ e1 6 rfl)
 obtain⟨oc38,od38,sl38,kV38,dc38,pm38,an38,cd38,ct38,l38,k38⟩:=Yc (d:=JhX) c2 37 rfl rfl (JZ e1 7 rfl)
 obtain⟨oc39,od39,sl39,kV39,dc39,pm39,an39,cd39,ct39,l39,k39⟩:=Yc (d:=Jh6) c2 38 rfl rfl (JZ e1 8 rfl)
 obtain⟨oc40,od40,sl40,kV40,dc40,pm40,an40,cd40,ct40,l40,k40⟩:=Yc (d:=JhO) c2 39 rfl rfl (JZ e1 9 rfl)
 obtain⟨oc41,od41,sl41,kV41,dc41,pm41,an41,cd41,ct41,l41,k41⟩:=Yc (d:=Jhj) c2 40 rfl rfl (JZ e1 10 rfl)
 obtain⟨oc42,od42,sl42,kV42,dc42,pm42,an42,cd42,ct42,l42,k42⟩:=Yc (d:=Jig) c2 41 rfl rfl (JZ e1 11 rfl)
 obtain⟨oc43,od43,sl43,kV43,dc43,pm43,an43,cd43,ct43,l43,k43⟩:=Yc (d:=JhN) c2 42 rfl rfl (JZ e1 12 rfl)
 obtain⟨oc44,od44,sl44,kV44,dc44,pm44,an44,cd44,ct44,l44,k44⟩:=Yc (d:=JhZ) c2 43 rfl rfl (JZ e1 13 rfl)
 have a1:=Ju q0 0 rfl
 have p1:=Ju q0 1 rfl
 have a2:=Ju q0 2 rfl
 have p2:=Ju q0 3 rfl
 have a3:=Ju q0 4 rfl
 have p3:=Ju q0 5 rfl
 have a4:=Ju q0 6 rfl
 have p4:=Ju q0 7 rfl
 have a5:=Ju q0 8 rfl
 have p5:=Ju q0 9 rfl
 have a6:=Ju q0 10 rfl
 have p6:=Ju q0 11 rfl
 have a7:=Ju q0 12 rfl
 have p7:=Ju q0 13 rfl
 have a8:=Ju q0 14 rfl
 have p8:=Ju q0 15 rfl
 have a9:=Ju q0 16 rfl
 have p9:=Ju q0 17 rfl
 have a10:=Ju q0 18 rfl
 have p10:=Ju q0 19 rfl
 have a11:=Ju q0 20 rfl
 have p11:=Ju q0 21 rfl
 have a12:=Ju q0 22 rfl
 have p12:=Ju q0 23 rfl
 have a13:=Ju q0 24 rfl
 have p13:=Ju q0 25 rfl
 have a14:=Ju q0 26 rfl
 have p14:=Ju q0 27 rfl
 have a15:=Ju q0 28 rfl
 have p15:=Ju q0 29 rfl
 have a16:=Ju q1 0 rfl
 have p16:=Ju q1 1 rfl
 have a17:=Ju q1 2 rfl
 have p17:=Ju q1 3 rfl
 have a18:=Ju q1 4 rfl
 have p18:=Ju q1 5 rfl
 have a19:=Ju q1 6 rfl
 have p19:=Ju q1 7 rfl
 have a20:=Ju q1 8 rfl
 have p20:=Ju q1 9 rfl
 have a21:=Ju q1 10 rfl
 have p21:=Ju q1 11 rfl
 have a22:=Ju q1 12 rfl
 have p22:=Ju q1 13 rfl
 have a23:=Ju q1 14 rfl
 have p23:=Ju q1 15 rfl
 have a24:=Ju q1 16 rfl
 have p24:=Ju q1 17 rfl
 have a25:=Ju q1 18 rfl
 have p25:=Ju q1 19 rfl
 have a26:=Ju q1 20 rfl
 have p26:=Ju q1 21 rfl
 have a27:=Ju q1 22 rfl
 have p27:=Ju q1 23 rfl
 have a28:=Ju q1 24 rfl
 have p28:=Ju q1 25 rfl
 have a29:=Ju q1 26 rfl
 have p29:=Ju q1 27 rfl
 have a30:=Ju q1 28 rfl
 have p30:=Ju q1 29 rfl
 have a31:=Ju q2 0 rfl
 have p31:=Ju q2 1 rfl
 have a32:=Ju q2 2 rfl
 have p32:=Ju q2 3 rfl
 have a33:=Ju q2 4 rfl
 have p33:=Ju q2 5 rfl
 have a34:=Ju q2 6 rfl
 have p34:=Ju q2 7 rfl
 have a35:=Ju q2 8 rfl
 have p35:=Ju q2 9 rfl
 have a36:=Ju q2 10 rfl
 have p36:=Ju q2 11 rfl
 have a37:=Ju q2 12 rfl
 have p37:=Ju q2 13 rfl
 have a38:=Ju q2 14 rfl
 have p38:=Ju q2 15 rfl
 have a39:=Ju q2 16 rfl
 have p39:=Ju q2 17 rfl
 have a40:=Ju q2 18 rfl
 have p40:=Ju q2 19 rfl
 have a41:=Ju q2 20 rfl
 have p41:=Ju q2 21 rfl
 have a42:=Ju q2 22 rfl
 have p42:=Ju q2 23 rfl
 have a43:=Ju q2 24 rfl
 have p43:=Ju q2 25 rfl
 have a44:=Ju q2 26 rfl
 have p44:=Ju q2 27 rfl
 have w_len:=Ju q2 28 rfl
 have w_abs:=Ju q2 29 rfl
 have w_int:=Ju q3 0 rfl
 have w_min:=Ju q3 1 rfl
 have w_range:=Ju q3 2 rfl
 have w_dict:=Ju q3 3 rfl
 have w_sorted:=Ju q3 4 rfl
 have w_enumerate:=Ju q3 5 rfl
 have w_tuple:=Ju q3 6 rfl
 have w_list:=Ju q3 7 rfl
 have w_isinstance:=Ju q3 8 rfl
 have w_bool:=Ju q3 9 rfl
 have w_str:=Ju q3 10 rfl
 have w_set:=Ju q3 11 rfl
 have w_all:=Ju q3 12 rfl
 have w_sum:=Ju q3 13 rfl
 have w_any:=Ju q3 14 rfl
 refine⟨K,X,?_⟩
 have e:=hfa.symm.trans (PySem.W.mg_of X G a44)
 cases e
 have F1:=fun_mk (st:=UN) l1 k1 p1
 have b1:=F1.binds (ps:=["_law_script", "_law_k"]) fun _ _ _ _ _ _ us hl=>match us,hl with | [_,_],_=>rfl
 have F2:=fun_mk (st:=UO) l2 k2 p2
 have b2:=F2.binds (ps:=["_law_tape_here", "_law_many"]) fun _ _ _ _ _ _ us hl=>match us,hl with | [_,_],_=>rfl
 have F3:=fun_mk (st:=Ui) l3 k3 p3
 have b3:=F3.binds (ps:=["_law_tape_here"]) fun _ _ _ _ _ _ us hl=>match us,hl with | [_],_=>rfl
 have F4:=fun_mk (st:=UJ) l4 k4 p4
 have b4:=F4.binds (ps:=["_law_tape_here"]) fun _ _ _ _ _ _ us hl=>match us,hl with | [_],_=>rfl
 have F5:=fun_mk (st:=Yp) l5 k5 p5
 have b5:=F5.binds (ps:=["_law_tape_here", "_law_names_here", "_law_turn_here"]) fun _ _ _ _ _ _ us hl=>match us,hl with | [_,_,_],_=>rfl
 have F6:=fun_mk (st:=JT) l6 k6 p6
 have b6:=F6.binds (ps:=["_law_names_here", "_law_joinings_here"]) fun _ _ _ _ _ _ us hl=>match us,hl with | [_,_],_=>rfl
 have F7:=fun_mk (st:=YK) l7 k7 p7
 have b7:=F7.binds (ps:=["_law_names_here", "_law_joinings_here"]) fun _ _ _ _ _ _ us hl=>match us,hl with | [_,_],_=>rfl
 have F8:=fun_mk (st:=YB) l8 k8 p8
 have b8:=F8.binds (ps:=["_law_tape_here", "_law_joinings_here", "_law_name"]) fun _ _ _ _ _ _ us hl=>match us,hl with | [_,_,_],_=>rfl
 have F9:=fun_mk (st:=YI) l9 k9 p9
 have b9:=F9.binds (ps:=["_law_tape_here", "_law_joinings_here"]) fun _ _ _ _ _ _ us hl=>match us,hl with | [_,_],_=>rfl
 have F10:=fun_mk (st:=YR) l10 k10 p10
 have b10:=F10.binds (ps:=["_law_turn_here", "_law_n"]) fun _ _ _ _ _ _ us hl=>match us,hl with | [_,_],_=>rfl
 have F11:=fun_mk (st:=Ym) l11 k11 p11
 have b11:=F11.binds (ps:=["_law_joinings_here", "_law_numbers_here", "_law_turn_here"]) fun _ _ _ _ _ _ us hl=>match us,hl with | [_,_,_],_=>rfl
 have F12:=fun_mk (st:=YU) l12 k12 p12
 have b12:=F12.binds (ps:=["_law_tape_here", "_law_joinings_here", "_law_name"]) fun _ _ _ _ _ _ us hl=>match us,hl with | [_,_,_],_=>rfl
 have F13:=fun_mk (st:=YC) l13 k13 p13
 have b13:=F13.binds (ps:=["_law_tape_here", "_law_names_here", "_law_joinings_here", "_law_turn_here"]) fun _ _ _ _ _ _ us hl=>match us,hl with | [_,_,_,_],_=>rfl
 have F14:=fun_mk (st:=ZQ) l14 k14 p14
 have b14:=F14.binds (ps:=["thing"]) fun _ _ _ _ _ _ us hl=>match us,hl with | [_],_=>rfl
 have F15:=fun_mk (st:=UI) l15 k15 p15
 have b15:=F15.binds (ps:=["thing", "many"]) fun _ _ _ _ _ _ us hl=>match us,hl with | [_,_],_=>rfl
 have F16:=fun_mk (st:=Zt) l16 k16 p16
 have b16:=F16.binds (ps:=["thing"]) fun _ _ _ _ _ _ us hl=>match us,hl with | [_],_=>rfl
 have F17:=fun_mk (st:=Zu) l17 k17 p17
 have b17:=F17.binds (ps:=["names", "thing"]) fun _ _ _ _ _ _ us hl=>match us,hl with | [_,_],_=>rfl
 have F18:=fun_mk (st:=Us) l18 k18 p18
 have b18:=F18.binds (ps:=["some"]) fun _ _ _ _ _ _ us hl=>match us,hl with | [_],_=>rfl
 have F19:=fun_mk (st:=YQ) l19 k19 p19
 have b19:=F19.binds (ps:=["names", "thing"]) fun _ _ _ _ _ _ us hl=>match us,hl with | [_,_],_=>rfl
 have F20:=fun_mk (st:=ZW) l20 k20 p20
 have b20:=F20.binds (ps:=["turn", "n"]) fun _ _ _ _ _ _ us hl=>match us,hl with | [_,_],_=>rfl
 have F21:=fun_mk (st:=Yb) l21 k21 p21
 have b21:=F21.binds (ps:=["names", "joinings", "turn", "rows"]) fun _ _ _ _ _ _ us hl=>match us,hl with | [_,_,_,_],_=>rfl
 have F22:=fun_mk (st:=Ud) l22 k22 p22
 have b22:=F22.binds (ps:=["_law_thing"]) fun _ _ _ _ _ _ us hl=>match us,hl with | [_],_=>rfl
 have F23:=fun_mk (st:=JV) l23 k23 p23
 have b23:=F23.binds (ps:=["_law_names_here", "_law_joinings_here", "_law_turn_here", "_law_rows"]) fun _ _ _ _ _ _ us hl=>match us,hl with | [_,_,_,_],_=>rfl
 have F24:=fun_mk (st:=ZV) l24 k24 p24
 have b24:=F24.binds (ps:=["thing"]) fun _ _ _ _ _ _ us hl=>match us,hl with | [_],_=>rfl
 have F25:=fun_mk (st:=Qi) l25 k25 p25
 have b25:=F25.binds (ps:=["thing"]) fun _ _ _ _ _ _ us hl=>match us,hl with | [_],_=>rfl
 have F26:=fun_mk (st:=ZS) l26 k26 p26
 have b26:=F26.binds (ps:=["joining", "side"]) fun _ _ _ _ _ _ us hl=>match us,hl with | [_,_],_=>rfl
 have F27:=fun_mk (st:=QA) l27 k27 p27
 have b27:=F27.binds (ps:=["joinings", "name", "pair"]) fun _ _ _ _ _ _ us hl=>match us,hl with | [_,_,_],_=>rfl
 have F28:=fun_mk (st:=UQ) l28 k28 p28
 have b28:=F28.binds (ps:=["joinings", "name", "way"]) fun _ _ _ _ _ _ us hl=>match us,hl with | [_,_,_],_=>rfl
 have F29:=fun_mk (st:=UU) l29 k29 p29
 have b29:=F29.binds (ps:=["joinings", "turn", "way"]) fun _ _ _ _ _ _ us hl=>match us,hl with | [_,_,_],_=>rfl
 have F30:=fun_mk (st:=Uk) l30 k30 p30
 have b30:=F30.binds (ps:=["names", "joinings", "turn", "name", "ring"]) fun _ _ _ _ _ _ us hl=>match us,hl with | [_,_,_,_,_],_=>rfl
 have F31:=fun_mk (st:=Zp) l31 k31 p31
 have b31:=F31.binds (ps:=["_law_joinings_here", "_law_name", "_law_way"]) fun _ _ _ _ _ _ us hl=>match us,hl with | [_,_,_],_=>rfl
 have F32:=fun_mk (st:=YL) l32 k32 p32
 have b32:=F32.binds (ps:=["_law_joinings_here", "_law_name", "_law_way"]) fun _ _ _ _ _ _ us hl=>match us,hl with | [_,_,_],_=>rfl
 have F33:=fun_mk (st:=Yj) l33 k33 p33
 have b33:=F33.binds (ps:=["_law_joinings_here", "_law_turn_here", "_law_name", "_law_ring"]) fun _ _ _ _ _ _ us hl=>match us,hl with | [_,_,_,_],_=>rfl
 have F34:=fun_mk (st:=UL) l34 k34 p34
 have b34:=F34.binds (ps:=["joinings", "one", "other", "way"]) fun _ _ _ _ _ _ us hl=>match us,hl with | [_,_,_,_],_=>rfl
 have F35:=fun_mk (st:=YO) l35 k35 p35
 have b35:=F35.binds (ps:=["_law_joinings_here", "_law_one", "_law_other", "_law_way"]) fun _ _ _ _ _ _ us hl=>match us,hl with | [_,_,_,_],_=>rfl
 have F36:=fun_mk (st:=Yy) l36 k36 p36
 have b36:=F36.binds (ps:=["names", "joinings", "one", "other", "some"]) fun _ _ _ _ _ _ us hl=>match us,hl with | [_,_,_,_,_],_=>rfl
 have F37:=fun_mk (st:=JR) l37 k37 p37
 have b37:=F37.binds (ps:=["_law_names_here", "_law_joinings_here", "_law_one", "_law_other", "_law_some"]) fun _ _ _ _ _ _ us hl=>match us,hl with | [_,_,_,_,_],_=>rfl
 have F38:=fun_mk (st:=UM) l38 k38 p38
 have b38:=F38.binds (ps:=["_law_which", "_law_world", "_law_ends", "_law_paper"]) fun _ _ _ _ _ _ us hl=>match us,hl with | [_,_,_,_],_=>rfl
 have F39:=fun_mk (st:=Uv) l39 k39 p39
 have b39:=F39.binds (ps:=["_law_which", "_law_world", "_law_ends", "_law_paper"]) fun _ _ _ _ _ _ us hl=>match us,hl with | [_,_,_,_],_=>rfl
 have F40:=fun_mk (st:=Zo) l40 k40 p40
 have b40:=F40.binds (ps:=["_law_tape_here"]) fun _ _ _ _ _ _ us hl=>match us,hl with | [_],_=>rfl
 have F41:=fun_mk (st:=YD) l41 k41 p41
 have b41:=F41.binds (ps:=["_law_tape_here", "_law_thing"]) fun _ _ _ _ _ _ us hl=>match us,hl with | [_,_],_=>rfl
 have F42:=fun_mk (st:=UK) l42 k42 p42
 have b42:=F42.binds (ps:=["_law_tape_here", "_law_thing", "_law_names_here"]) fun _ _ _ _ _ _ us hl=>match us,hl with | [_,_,_],_=>rfl
 have F43:=fun_mk (st:=YM) l43 k43 p43
 have b43:=F43.binds (ps:=["_law_tape_here", "_law_thing", "_law_names_here"]) fun _ _ _ _ _ _ us hl=>match us,hl with | [_,_,_],_=>rfl
 have F44:=fun_mk (st:=JaG) l44 k44 p44
 have z_len:=PySem.W.mg_none_of X G w_len
 have z_abs:=PySem.W.mg_none_of X G w_abs
 have z_int:=PySem.W.mg_none_of X G w_int
 have z_min:=PySem.W.mg_none_of X G w_min
 have z_range:=PySem.W.mg_none_of X G w_range
 have z_dict:=PySem.W.mg_none_of X G w_dict
 have z_sorted:=PySem.W.mg_none_of X G w_sorted
 have z_enumerate:=PySem.W.mg_none_of X G w_enumerate
 have z_tuple:=PySem.W.mg_none_of X G w_tuple
 have z_list:=PySem.W.mg_none_of X G w_list
 have z_isinstance:=PySem.W.mg_none_of X G w_isinstance
 have z_bool:=PySem.W.mg_none_of X G w_bool
 have z_str:=PySem.W.mg_none_of X G w_str
 have z_set:=PySem.W.mg_none_of X G w_set
 have z_all:=PySem.W.mg_none_of X G w_all
 have z_sum:=PySem.W.mg_none_of X G w_sum
 have z_any:=PySem.W.mg_none_of X G w_any
 refine⟨PySem.W.fnOf "law" "law" (defArgs JaG) (defBody JaG) (defScope JaG) .none kV44 dc44 pm44 an44 cd44 ct44,fun s v=>.of_eq rfl,fun base _ _=>?_⟩
 have d__law_tape:Fd PySem.Challenge.rw_joinback_k70_whole_papers_spoilt_anywher.prog w K mg base 1 "_law_tape" ["_law_script", "_law_k"] [false,false] Qr:=YN F1 (PySem.W.mg_of X G a1) b1 (ok__law_tape F1 z_len z_abs z_int)
 have d__law_draw:Fd PySem.Challenge.rw_joinback_k70_whole_papers_spoilt_anywher.prog w K mg base 1 "_law_draw" ["_law_tape_here", "_law_many"] [true,false] Jf:=YN F2 (PySem.W.mg_of X G a2) b2 (ok__law_draw F2 )
 have d__law_names:Fd PySem.Challenge.rw_joinback_k70_whole_papers_spoilt_anywher.prog w K mg base 2 "_law_names" ["_law_tape_here"] [true] ZR:=YN F3 (PySem.W.mg_of X G a3) b3 (ok__law_names F3 z_min z_range d__law_draw)
 have d__law_turn:Fd PySem.Challenge.rw_joinback_k70_whole_papers_spoilt_anywher.prog w K mg base 2 "_law_turn" ["_law_tape_here"] [true] Qo:=YN F4 (PySem.W.mg_of X G a4) b4 (ok__law_turn F4 d__law_draw)
 have d__law_joinings:Fd PySem.Challenge.rw_joinback_k70_whole_papers_spoilt_anywher.prog w K mg base 2 "_law_joinings" ["_law_tape_here", "_law_names_here", "_law_turn_here"] [true,false,false] Un:=YN F5 (PySem.W.mg_of X G a5) b5 (ok__law_joinings F5 z_dict z_len z_range d__law_draw)
 have d__law_classes:Fd PySem.Challenge.rw_joinback_k70_whole_papers_spoilt_anywher.prog w K mg base 1 "_law_classes" ["_law_names_here", "_law_joinings_here"] [false,false] YV:=YN F6 (PySem.W.mg_of X G a6) b6 (ok__law_classes F6 z_sorted)
 have d__law_numbers:Fd PySem.Challenge.rw_joinback_k70_whole_papers_spoilt_anywher.prog w K mg base 2 "_law_numbers" ["_law_names_here", "_law_joinings_here"] [false,false] Zi:=YN F7 (PySem.W.mg_of X G a7) b7 (ok__law_numbers F7 d__law_classes)
 have d__law_straight:Fd PySem.Challenge.rw_joinback_k70_whole_papers_spoilt_anywher.prog w K mg base 2 "_law_straight" ["_law_tape_here", "_law_joinings_here", "_law_name"] [true,false,false] UT:=YN F8 (PySem.W.mg_of X G a8) b8 (ok__law_straight F8 z_range z_enumerate z_len z_tuple d__law_draw)
 have d__law_twinned:Fd PySem.Challenge.rw_joinback_k70_whole_papers_spoilt_anywher.prog w K mg base 2 "_law_twinned" ["_law_tape_here", "_law_joinings_here"] [true,true] YA:=YN F9 (PySem.W.mg_of X G a9) b9 (ok__law_twinned F9 z_len d__law_draw)
 have d__law_counted:Fd PySem.Challenge.rw_joinback_k70_whole_papers_spoilt_anywher.prog w K mg base 1 "_law_counted" ["_law_turn_here", "_law_n"] [false,false] Ya:=YN F10 (PySem.W.mg_of X G a10) b10 (ok__law_counted F10 )
 have d__law_coming_out:Fd PySem.Challenge.rw_joinback_k70_whole_papers_spoilt_anywher.prog w K mg base 2 "_law_coming_out" ["_law_joinings_here", "_law_numbers_here", "_law_turn_here"] [false,false,false] Up:=YN F11 (PySem.W.mg_of X G a11) b11 (ok__law_coming_out F11 d__law_counted)
 have d__law_round:Fd PySem.Challenge.rw_joinback_k70_whole_papers_spoilt_anywher.prog w K mg base 2 "_law_round" ["_law_tape_here", "_law_joinings_here", "_law_name"] [true,false,false] ZT:=YN F12 (PySem.W.mg_of X G a12) b12 (ok__law_round F12 z_range z_enumerate z_len z_tuple d__law_draw)
 have d__law_papers:Fd PySem.Challenge.rw_joinback_k70_whole_papers_spoilt_anywher.prog w K mg base 3 "_law_papers" ["_law_tape_here", "_law_names_here", "_law_joinings_here", "_law_turn_here"] [true,true,true,false] Zz:=YN F13 (PySem.W.mg_of X G a13) b13 (ok__law_papers F13 z_len z_sorted z_int d__law_draw d__law_numbers d__law_straight d__law_classes d__law_twinned d__law_coming_out d__law_round)
 have d_is_list:Fd PySem.Challenge.rw_joinback_k70_whole_papers_spoilt_anywher.prog w K mg base 1 "is_list" ["thing"] [false] UX:=YN F14 (PySem.W.mg_of X G a14) b14 (ok_is_list F14 z_list z_tuple z_isinstance)
 have d_is_row_of:Fd PySem.Challenge.rw_joinback_k70_whole_papers_spoilt_anywher.prog w K mg base 1 "is_row_of" ["thing", "many"] [false,false] Yt:=YN F15 (PySem.W.mg_of X G a15) b15 (ok_is_row_of F15 z_tuple z_isinstance z_len)
 have d_is_whole:Fd PySem.Challenge.rw_joinback_k70_whole_papers_spoilt_anywher.prog w K mg base 1 "is_whole" ["thing"] [false] Ub:=YN F16 (PySem.W.mg_of X G a16) b16 (ok_is_whole F16 z_int z_isinstance z_bool)
 have d_is_named:Fd PySem.Challenge.rw_joinback_k70_whole_papers_spoilt_anywher.prog w K mg base 1 "is_named" ["names", "thing"] [false,false] Zk:=YN F17 (PySem.W.mg_of X G a17) b17 (ok_is_named F17 z_str z_isinstance)
 have d_are_unlike:Fd PySem.Challenge.rw_joinback_k70_whole_papers_spoilt_anywher.prog w K mg base 1 "are_unlike" ["some"] [false] Ye:=YN F18 (PySem.W.mg_of X G a18) b18 (ok_are_unlike F18 z_len z_set)
 have d_are_some_of:Fd PySem.Challenge.rw_joinback_k70_whole_papers_spoilt_anywher.prog w K mg base 2 "are_some_of" ["names", "thing"] [false,false] Yx:=YN F19 (PySem.W.mg_of X G a19) b19 (ok_are_some_of F19 z_all d_is_list d_is_named d_are_unlike)
 have d_counted:Fd PySem.Challenge.rw_joinback_k70_whole_papers_spoilt_anywher.prog w K mg base 1 "counted" ["turn", "n"] [false,false] Zs:=YN F20 (PySem.W.mg_of X G a20) b20 (ok_counted F20 )
 have d_shows_numbers:Fd PySem.Challenge.rw_joinback_k70_whole_papers_spoilt_anywher.prog w K mg base 3 "shows_numbers" ["names", "joinings", "turn", "rows"] [false,false,false,false] ZA:=YN F21 (PySem.W.mg_of X G a21) b21 (ok_shows_numbers F21 z_all z_len z_dict d_is_list d_is_row_of d_is_whole d_are_some_of d_counted)
 have d__law_is_int:Fd PySem.Challenge.rw_joinback_k70_whole_papers_spoilt_anywher.prog w K mg base 1 "_law_is_int" ["_law_thing"] [false] Yl:=YN F22 (PySem.W.mg_of X G a22) b22 (ok__law_is_int F22 z_int z_isinstance z_bool)
 have d__law_numbers_due:Fd PySem.Challenge.rw_joinback_k70_whole_papers_spoilt_anywher.prog w K mg base 2 "_law_numbers_due" ["_law_names_here", "_law_joinings_here", "_law_turn_here", "_law_rows"] [false,false,false,false] UE:=YN F23 (PySem.W.mg_of X G a23) b23 (ok__law_numbers_due F23 z_list z_tuple z_isinstance z_len z_str z_sorted z_all d__law_is_int d__law_counted)
 have d_is_pair:Fd PySem.Challenge.rw_joinback_k70_whole_papers_spoilt_anywher.prog w K mg base 2 "is_pair" ["thing"] [false] ZJ:=YN F24 (PySem.W.mg_of X G a24) b24 (ok_is_pair F24 d_is_row_of d_is_whole)
 have d_is_way:Fd PySem.Challenge.rw_joinback_k70_whole_papers_spoilt_anywher.prog w K mg base 3 "is_way" ["thing"] [false] US:=YN F25 (PySem.W.mg_of X G a25) b25 (ok_is_way F25 z_tuple z_isinstance z_all d_is_pair)
 have d_ends_by:Fd PySem.Challenge.rw_joinback_k70_whole_papers_spoilt_anywher.prog w K mg base 1 "ends_by" ["joining", "side"] [false,false] Jay:=YN F26 (PySem.W.mg_of X G a26) b26 (ok_ends_by F26 )
 have d_passed:Fd PySem.Challenge.rw_joinback_k70_whole_papers_spoilt_anywher.prog w K mg base 2 "passed" ["joinings", "name", "pair"] [false,false,false] JaQ:=YN F27 (PySem.W.mg_of X G a27) b27 (ok_passed F27 z_len d_ends_by)
 have d_names_met:Fd PySem.Challenge.rw_joinback_k70_whole_papers_spoilt_anywher.prog w K mg base 3 "names_met" ["joinings", "name", "way"] [false,false,false] ZI:=YN F28 (PySem.W.mg_of X G a28) b28 (ok_names_met F28 d_passed)
 have d_steps_of:Fd PySem.Challenge.rw_joinback_k70_whole_papers_spoilt_anywher.prog w K mg base 2 "steps_of" ["joinings", "turn", "way"] [false,false,false] QI:=YN F29 (PySem.W.mg_of X G a29) b29 (ok_steps_of F29 z_sum d_counted)
 have d_shows_ring:Fd PySem.Challenge.rw_joinback_k70_whole_papers_spoilt_anywher.prog w K mg base 4 "shows_ring" ["names", "joinings", "turn", "name", "ring"] [false,false,false,false,false] UP:=YN F30 (PySem.W.mg_of X G a30) b30 (ok_shows_ring F30 z_len d_is_way d_are_unlike d_names_met d_steps_of)
 have d__law_met:Fd PySem.Challenge.rw_joinback_k70_whole_papers_spoilt_anywher.prog w K mg base 1 "_law_met" ["_law_joinings_here", "_law_name", "_law_way"] [false,false,false] Jan:=YN F31 (PySem.W.mg_of X G a31) b31 (ok__law_met F31 z_len)
 have d__law_walked:Fd PySem.Challenge.rw_joinback_k70_whole_papers_spoilt_anywher.prog w K mg base 2 "_law_walked" ["_law_joinings_here", "_law_name", "_law_way"] [false,false,false] Ux:=YN F32 (PySem.W.mg_of X G a32) b32 (ok__law_walked F32 z_tuple z_isinstance z_len z_all d__law_is_int d__law_met)
 have d__law_ring_due:Fd PySem.Challenge.rw_joinback_k70_whole_papers_spoilt_anywher.prog w K mg base 3 "_law_ring_due" ["_law_joinings_here", "_law_turn_here", "_law_name", "_law_ring"] [false,false,false,false] Uo:=YN F33 (PySem.W.mg_of X G a33) b33 (ok__law_ring_due F33 z_len z_set z_sum d__law_walked d__law_counted)
 have d_shows_way:Fd PySem.Challenge.rw_joinback_k70_whole_papers_spoilt_anywher.prog w K mg base 4 "shows_way" ["joinings", "one", "other", "way"] [false,false,false,false] YT:=YN F34 (PySem.W.mg_of X G a34) b34 (ok_shows_way F34 d_is_way d_names_met d_are_unlike)
 have d__law_way_due:Fd PySem.Challenge.rw_joinback_k70_whole_papers_spoilt_anywher.prog w K mg base 3 "_law_way_due" ["_law_joinings_here", "_law_one", "_law_other", "_law_way"] [false,false,false,false] ZN:=YN F35 (PySem.W.mg_of X G a35) b35 (ok__law_way_due F35 z_len z_set d__law_walked)
 have d_shows_parted:Fd PySem.Challenge.rw_joinback_k70_whole_papers_spoilt_anywher.prog w K mg base 3 "shows_parted" ["names", "joinings", "one", "other", "some"] [false,false,false,false,false] Yi:=YN F36 (PySem.W.mg_of X G a36) b36 (ok_shows_parted F36 z_all d_are_some_of)
 have d__law_parted_due:Fd PySem.Challenge.rw_joinback_k70_whole_papers_spoilt_anywher.prog w K mg base 1 "_law_parted_due" ["_law_names_here", "_law_joinings_here", "_law_one", "_law_other", "_law_some"] [false,false,false,false,false] UV:=YN F37 (PySem.W.mg_of X G a37) b37 (ok__law_parted_due F37 z_list z_tuple z_isinstance z_str z_all z_len z_set z_any)
 have d__law_said:Fd PySem.Challenge.rw_joinback_k70_whole_papers_spoilt_anywher.prog w K mg base 5 "_law_said" ["_law_which", "_law_world", "_law_ends", "_law_paper"] [false,false,false,false] UG:=YN F38 (PySem.W.mg_of X G a38) b38 (ok__law_said F38 d_shows_numbers d__law_numbers_due d_shows_ring d__law_ring_due d_shows_way d__law_way_due d_shows_parted d__law_parted_due)
 have d__law_says:FdG PySem.Challenge.rw_joinback_k70_whole_papers_spoilt_anywher.prog w K mg base 6 "_law_says" ["_law_which", "_law_world", "_law_ends", "_law_paper"] [false,false,false,false] Qs:=fdg_mk F39 (PySem.W.mg_of X G a39) b39 (ok__law_says F39 z_str z_bool z_isinstance d__law_said)
 have d__law_odd:Fd PySem.Challenge.rw_joinback_k70_whole_papers_spoilt_anywher.prog w K mg base 2 "_law_odd" ["_law_tape_here"] [true] ZF:=YN F40 (PySem.W.mg_of X G a40) b40 (ok__law_odd F40 z_len d__law_draw)
 have d__law_bent_row:Fd PySem.Challenge.rw_joinback_k70_whole_papers_spoilt_anywher.prog w K mg base 3 "_law_bent_row" ["_law_tape_here", "_law_thing"] [true,true] Ua:=YN F41 (PySem.W.mg_of X G a41) b41 (ok__law_bent_row F41 z_list z_len z_isinstance z_tuple d__law_draw d__law_odd)
 have d__law_step:Fd PySem.Challenge.rw_joinback_k70_whole_papers_spoilt_anywher.prog w K mg base 4 "_law_step" ["_law_tape_here", "_law_thing", "_law_names_here"] [true,true,false] Ys:=YN F42 (PySem.W.mg_of X G a42) b42 (ok__law_step F42 z_list z_tuple z_isinstance z_int z_bool z_str z_len d__law_bent_row d__law_draw d__law_odd)
 have d__law_spoilt:Fd PySem.Challenge.rw_joinback_k70_whole_papers_spoilt_anywher.prog w K mg base 14 "_law_spoilt" ["_law_tape_here", "_law_thing", "_law_names_here"] [true,true,false] (JU 9):=YN F43 (PySem.W.mg_of X G a43) b43 (ok__law_spoilt F43 (PySem.W.mg_of X G a43) b43 z_list z_tuple z_isinstance z_len d__law_draw d__law_step)
 exact law_impG (ok_law F44 z_len z_min z_range z_tuple z_int d__law_tape d__law_names d__law_turn d__law_joinings d__law_papers d__law_says d__law_said d__law_draw d__law_spoilt) fun ns h1 h2=>v_law ns h1
end VS
open PySem PySem.W PyProof.Rows
set_option maxRecDepth 100000 in
set_option maxHeartbeats 0 in
theorem PySem.Challenge.cw_joinback_k70_whole_papers_spoilt_anywher_holds : PySem.Challenge.rw_joinback_k70_whole_papers_spoilt_anywher.Holds := by
 w_on;o_law
 refine HandSHeadRun.head_any (r:=PySem.W.OpenLaw.row PySem.Challenge.rw_joinback_k70_whole_papers_spoilt_anywher) (q:=VS.qvZ) (H:=VS.hkZ) (ob:=VS.obT VS.asZ VS.obZ) (M:=9000) (loose:=VS.loZ) (d:=HandSHeadRun.topDef VS.RZ.prog 46) (kwd:=[]) (fun s=>VS.obT_eq s) (by kernel_rfl) (fun s=>by kernel_rfl) VS.runZ (by kernel_rfl) (by kernel_rfl) (by kernel_rfl) (by rfl) (by first | assumption | decide +kernel) (by decide +kernel) ⟨rfl,rfl,rfl,rfl,rfl,by decide +kernel⟩ ?hw ?hc
 case hw=>w_witness2
 case hc =>
  refine VS.walkGE (l:=PySem.Challenge.rw_joinback_k70_whole_papers_spoilt_anywher) (k:=15) (x := "_law_script") rfl (by kernel_rfl) ⟨rfl,by decide,by decide⟩ ?F
  case F =>
   intro w mg fa h Y G hmg0
   have hmg:mg ("law" : PySem.Str)=some (.ref fa):=by
    have e:(HandSHeadRun.topDef VS.RZ.prog 46).name=("law" : PySem.Str):=by kernel_rfl
    rw[←e]
    exact hmg0
   exact VS.endZ Y G hmg

