/- Texts joined. Conditions: as each theorem names them. -/
import Derived.Deep.RegionWith
import Derived.Laws.Append
import Derived.Laws.AppendOwnNone
import Derived.Lib.Builder
import Derived.Lib.AppendStr
import Derived.Lib.UnsafeStr
import Derived.Lib.MakeNoZero
import Derived.Laws.Externs
import Derived.Laws.BitsLemmas
import Derived.RegionTactic
import Derived.Shelf.Strings.SlTrimAscii
import Derived.Shelf.Strings.Prefix
import Derived.Shelf.Strings.Search3
import Derived.Shelf.Strings.Count
import Derived.Shelf.Strings.OnBuilder
import Derived.Test.YtpjijpcemejlnaaGreatDoorProg
import Derived.Maps.OwnSet
import Derived.Maps.OwnOps
import Derived.StringKeys
import Derived.Lib.IndexLaws
import Derived.Test.YtpjijpcemejlnaaGreatDoorP04
set_option maxRecDepth 100000
set_option maxHeartbeats 32000000
set_option linter.unusedVariables false
set_option linter.unusedSimpArgs false
namespace Go.Proofs.YtpjijpcemejlnaaGreatDoor
open Go.RowKit Go.Proofs.Tryz
def Rv(F:Vl->List (List Nat)):Nat->List Vl->List (List Nat)
 |_,[]=>[]
 |i,x::xs=>(F x).map (i :: ·)++Rv F (i+1) xs
def Co:Nat->Vl->List (List Nat)
 |0,_=>[]
 |d+1,v=>
  if v.what=91 then Rv (Co d) 0 v.kids
  else if v.what=63 then(if v.kids=[]then[[]]else Rv (Co d) 0 v.kids)
  else if v.what=85 then v.kids.flatMap fun x=>(Co d x).map (v.tag :: ·)
  else if v.what=82 then v.kids.flatMap fun y=>(Co d (Qeh y)).map (y.tag :: ·)
  else[[]]
def En(p:List Nat):List UInt8:=Aq 47 (p.map An)
def lvL(v:Vl):Option (List (List UInt8)):=if (Co 12 v).all (fun p=>decide (p.length<=8))then some ((Co 12 v).map En)else none
def Fp(c:UInt8)(tags:List Nat)(i:Nat):Nat:=if c=64 then tags.getD i 0 else i
def Ct(F:Vl->List (List Nat))(st:Nat->Nat)(ys:List Vl):List (List Nat):=(ys.zipIdx).flatMap fun y=>(F y.1).map (st y.2 :: ·)
theorem Fc(F:Vl->List (List Nat))(st:Nat->Nat)(ys:List Vl)(x:Vl):Ct F st (ys++[x])=Ct F st ys++(F x).map (st ys.length :: ·):=by
 simp[Ct,List.zipIdx_append]
theorem Qbp(F:Vl->List (List Nat)):∀(ys:List Vl) (i:Nat),Rv F i ys=(ys.zipIdx i).flatMap fun y=>(F y.1).map (y.2 :: ·)
 |[],_=>rfl
 |x::xs,i=>by rw[Rv,Qbp F xs (i+1),List.zipIdx_cons,List.flatMap_cons]
theorem P3(F:Vl->List (List Nat))(ys:List Vl):Ct F (fun i=>i) ys=Rv F 0 ys:=by rw[Qbp];rfl
theorem Rz{α:Type}(F:Vl->List (List Nat))(g:α->Nat)(f:α->Vl)(l:List α):Ct F (fun i=>(l.map g).getD i 0) (l.map f)=l.flatMap fun x=>(F (f x)).map (g x :: ·):=by
 have:∀(l m:List α),((l.map f).zipIdx m.length).flatMap (fun y=>(F y.1).map (((m++l).map g).getD y.2 0 :: ·))=l.flatMap fun x=>(F (f x)).map (g x :: ·):=by
  intro l
  induction l with
  |nil=>intro m;rfl
  |cons x l ih=>
   intro m
   rw[List.map_cons,List.zipIdx_cons,List.flatMap_cons,List.flatMap_cons]
   have:=ih (m++[x])
   rw[List.length_append,List.length_singleton,List.append_assoc,List.singleton_append]at this
   rw[this]
   congr 2
   funext q
   rw[List.getD_eq_getElem?_getD,List.map_append,List.getElem?_append_right (by simp)]
   simp
 exact this l []
theorem Ys{F:Vl->List (List Nat)}{st:Nat->Nat}:∀(ys:List Vl),(∀x∈ys,(F x).length<=(Bg x).length+1)->(Ct F st ys).length<=Df (ys.map Bg):=by
 intro ys
 unfold Ct
 have:∀(i:Nat),(∀x∈ys,(F x).length<=(Bg x).length+1)->((ys.zipIdx i).flatMap fun y=>(F y.1).map (st y.2 :: ·)).length<=Df (ys.map Bg):=by
  induction ys with
  |nil=>intro i _;simp[Df]
  |cons x ys ih=>
   intro i h
   rw[List.zipIdx_cons,List.flatMap_cons,List.map_cons,Er,List.length_append,List.length_map]
   have:=ih (i+1) fun y hy=>h y (by simp[hy])
   have:=h x (by simp)
   simp only
   omega
 exact this 0
theorem Ke(F:Vl->List (List Nat))(st:Nat->Nat)(ys:List Vl)(n:Nat):(Ct F st (ys.take n)).length<=(Ct F st ys).length:=by
 conv=>rhs;rw[<-List.take_append_drop n ys]
 unfold Ct
 rw[List.zipIdx_append,List.flatMap_append,List.length_append]
 exact Nat.le_add_right _ _
theorem Ym(p:List Nat)(g:Nat):En (p++[g])=if p=[]then An g else En p++47::An g:=by
 unfold En
 rw[List.map_append,List.map_singleton]
 have:∀l:List (List UInt8),Aq 47 (l++[An g])=if l.length=0 then An g else Aq 47 l++47::An g:=by
  intro l
  induction l with
  |nil=>simp[Aq]
  |cons q l ih=>
   cases l with
   |nil=>simp[Aq]
   |cons r l=>
    rw[List.cons_append,Cj 47 q (by simp),ih,Cj 47 q (by simp)]
    simp
 rw[this]
 simp
theorem Qbx(p:List Nat):(En p=[])↔p=[]:=by
 constructor
 ·intro h
  rcases Dv p with rfl|⟨t,g,rfl⟩
  ·rfl
  rw[Ym]at h
  split at h
  ·exact absurd h (Nl g)
  simp at h
 rintro rfl;rfl
theorem Rx{α:Type}[DecidableEq α]:∀(l m:List α),l.Nodup->(∀x∈l,x∈m)->l.length<=m.length
 |[],m,_,_=>by simp
 |x::l,m,hn,hs=>by
  have hx:=hs x (by simp)
  have:=Rx l (m.erase x) (List.nodup_cons.1 hn).2 (fun y hy=>(List.mem_erase_of_ne (by rintro rfl;exact(List.nodup_cons.1 hn).1 hy)).2 (hs y (by simp[hy])))
  rw[List.length_erase_of_mem hx]at this
  have:=List.length_pos_of_mem hx
  simp only[List.length_cons];omega
theorem Qgv{S:List Ty}{d:Nat}{k:Kd}{v:Vl}(h:J9 S (d+1) k v)(hk:Da k)(hS:∀t∈S,Du t):∃(c:UInt8) (t tx:List UInt8) (tags:List Nat) (ys:List (Kd × Vl)),Bp k=c::t/\t.length<=100/\Cq S k v=.mk (c::t) tx tags (ys.map fun y=>Cq S y.1 y.2)/\(∀y∈ys,J9 S d y.1 y.2/\Da y.1) /\
  (ys=[]->Co (d+1) v=if c=91\/c=64/\tx=[82]then[]else[[]])/\(ys≠[]->Co (d+1) v=Ct (Co d) (Fp c tags) (ys.map (·.2))/\(c=64->tags.length=ys.length))/\(∀g∈tags,g<=200)/\ys.length<=1000/\(tx=[]\/tx=[82]\/tx=[85]\/tx=[69]\/c≠64):=by
 have hkl:=hk.2.2
 have e91:∀{r},k.signs=91::r->Bp k=91::(r++Cd k):=fun hs=>by unfold Bp;rw[hs];rfl
 have e63:∀{r},k.signs=63::r->Bp k=63::(r++Cd k):=fun hs=>by unfold Bp;rw[hs];rfl
 have e64:k.signs=[]->k.base=[64]->Bp k=64::(k.name++[59]):=fun hs hb=>by unfold Bp Cd;rw[hs,if_pos hb];rfl
 cases h with
 |@n _ _ m hs hb h=>
  have e:Bp k=[110]:=by unfold Bp Cd;rw[hs,hb];rfl
  exact⟨110,[],An m,[],[],e,by simp,by rw[Qar,e];rfl,by simp,fun _=>by simp[Co,Vl.what],by simp,by simp,by simp,by simp⟩
 |@t _ _ s hs hb h=>
  have e:Bp k=[116]:=by unfold Bp Cd;rw[hs,hb];rfl
  exact⟨116,[],_,[],[],e,by simp,by rw[Xr,e];rfl,by simp,fun _=>by simp[Co,Vl.what],by simp,by simp,by simp,by simp⟩
 |@f _ _ x hs hb=>
  have e:Bp k=[102]:=by unfold Bp Cd;rw[hs,hb];rfl
  exact⟨102,[],_,[],[],e,by simp,by rw[V7,e];rfl,by simp,fun _=>by simp[Co,Vl.what],by simp,by simp,by simp,by simp⟩
 |@lst _ _ r ks hs hl h=>
  have e:=e91 hs
  rw[e]at hkl
  refine⟨91,_,[],[],ks.map fun x=>(k.part,x),e,by simp at hkl ⊢;omega,by rw[Tj,e,List.map_map];rfl,?_,?_,?_,by simp,by simp;omega,by simp⟩
  ·intro y hy
   obtain⟨x,hx,rfl⟩:=List.mem_map.1 hy
   exact⟨h x hx,(Kx hk).1⟩
  ·intro he
   have:ks=[]:=by simpa using he
   subst this
   simp[Co,Vl.what,Vl.kids,Rv]
  intro _
  refine⟨?_,fun h=>absurd h (by decide)⟩
  have e2:(ks.map fun x=>(k.part,x)).map (·.2)=ks:=by rw[List.map_map];exact List.map_id ks
  rw[e2]
  show Co (d+1) (.mk 91 [] 0 ks)=Ct (Co d) (fun i=>i) ks
  rw[P3]
  rfl
 |@non _ _ r hs=>
  have e:=e63 hs
  rw[e]at hkl
  exact⟨63,_,[],[],[],e,by simp at hkl ⊢;omega,by rw[Mv,e];rfl,by simp,fun _=>by simp[Co,Vl.what,Vl.kids],by simp,by simp,by simp,by simp⟩
 |@som _ _ r x hs h=>
  have e:=e63 hs
  rw[e]at hkl
  refine⟨63,_,[],[],[(k.part,x)],e,by simp at hkl ⊢;omega,by rw[Mv,e];rfl,?_,by simp,fun _=>⟨?_,fun h=>absurd h (by decide)⟩,by simp,by simp,by simp⟩
  ·intro y hy
   simp only[List.mem_singleton]at hy
   subst hy
   exact⟨h,(Kx hk).1⟩
  show Co (d+1) (.mk 63 [] 0 [x])=Ct (Co d) (fun i=>i) [x]
  rw[P3]
  simp[Co,Vl.what,Vl.kids]
 |@enm _ _ t f hs hb ht h9 hf=>
  have e:=e64 hs hb
  rw[e]at hkl
  exact⟨64,_,[69],[f.tag],[],e,by simp at hkl ⊢;omega,by rw[S9,e];rfl,by simp,fun _=>by simp[Co,Vl.what],by simp,by
   intro g hg
   simp only[List.mem_singleton]at hg
   subst hg
   exact((hS t (Bq ht).1).2.2.1.1 f (Bn hf).2).2.1,by simp,by simp⟩
 |@uni _ _ t f x hs hb ht h5 hf h=>
  have e:=e64 hs hb
  rw[e]at hkl
  refine⟨64,_,[85],[f.tag],[(f.kind,x)],e,by simp at hkl ⊢;omega,by rw[Tf,e,Gk ht hf];rfl,?_,by simp,fun _=>⟨?_,fun _=>rfl⟩,?_,by simp,by simp⟩
  ·intro y hy
   simp only[List.mem_singleton]at hy
   subst hy
   exact⟨h,(Ra hS ht (by rw[h5];decide) (Bn hf).2).1⟩
  ·simp[Co,Vl.what,Vl.kids,Vl.tag,Ct,Fp]
  intro g hg
  simp only[List.mem_singleton]at hg
  subst hg
  exact((hS t (Bq ht).1).2.2.1.1 f (Bn hf).2).2.1
 |@rcd _ _ t fs hs hb ht h2 hf h hn hp=>
  have e:=e64 hs hb
  rw[e]at hkl
  have hkf:=fun p (hp:p∈fs)=>Ra hS ht (by rw[h2];decide) (Bn (hf p hp)).2
  have hfl:fs.length<=1000:=by
   have h8:=(hS t (Bq ht).1).2.2.2.1
   have h0:(fs.map (·.1)).length<=t.fields.length:=Rx (fs.map (·.1)) t.fields (by
    rw[List.Nodup,List.pairwise_map]
    exact hp.imp fun h e=>by rw[e]at h;omega) (fun x hx=>by
    obtain⟨p,hp,rfl⟩:=List.mem_map.1 hx
    exact(Bn (hf p hp)).2)
   simp at h0;omega
  refine⟨64,_,[82],fs.map (·.1.tag),fs.map fun p=>(p.1.kind,p.2),e,by simp at hkl ⊢;omega,?_,?_,?_,fun _=>⟨?_,fun _=>by simp⟩,?_,by simpa using hfl,by simp⟩
  ·rw[Sr,e,List.map_map]
   congr 1
   exact List.map_congr_left fun p hp=>by rw[Gk ht (hf p hp)];rfl
  ·intro y hy
   obtain⟨p,hp,rfl⟩:=List.mem_map.1 hy
   exact⟨h p hp,(hkf p hp).1⟩
  ·intro he
   have:fs=[]:=by simpa using he
   subst this
   simp[Co,Vl.what,Vl.kids]
  ·rw[List.map_map]
   have e1:=Rz (Co d) (fun p:Fd × Vl=>p.1.tag) (fun p:Fd × Vl=>p.2) fs
   have e2:Fp 64 (fs.map (·.1.tag))=fun i=>(fs.map (·.1.tag)).getD i 0:=rfl
   rw[e2]
   refine Eq.trans ?_ e1.symm
   simp[Co,Vl.what,Vl.kids,List.flatMap_map,Do,Qeh,Vl.tag]
  intro g hg
  obtain⟨p,hp,rfl⟩:=List.mem_map.1 hg
  exact((hS t (Bq ht).1).2.2.1.1 p.1 (Bn (hf p hp)).2).2.1
theorem Xg{S:List Ty}:∀(d:Nat) (k:Kd) (v:Vl),J9 S d k v->(Co d v).length<=(Bg v).length+1:=by
 intro d
 induction d with
 |zero=>intro k v h;cases h
 |succ d ih=>
  intro k v h
  cases h with
  |n=>simp[Co,Vl.what]
  |t=>simp[Co,Vl.what]
  |f=>simp[Co,Vl.what]
  |enm=>simp[Co,Vl.what]
  |non=>simp[Co,Vl.what,Vl.kids]
  |@lst _ _ r ks hs hl h=>
   have h1:=Ys (F:=Co d) (st:=fun i=>i) ks fun x hx=>ih _ _ (h x hx)
   rw[P3]at h1
   have e:Co (d+1) (.mk 91 [] 0 ks)=Rv (Co d) 0 ks:=rfl
   rw[e,Gs]
   have:=Bw 44 (ks.map Bg)
   simp only[List.length_cons,List.length_append]
   omega
  |@som _ _ r x hs h=>
   have:=ih _ _ h
   have e:Bg (.mk 63 [] 0 [x])=43::Bg x:=by simp[Bg,D2,G1,Aq]
   rw[e]
   simp[Co,Vl.what,Vl.kids,Rv]
   omega
  |@uni _ _ t f x hs hb ht h5 hf h=>
   have:=ih _ _ h
   have e:Bg (.mk 85 [] f.tag [x])=60::(An f.tag++61::(Bg x++[62])):=by simp[Bg,D2,G1,Aq]
   rw[e]
   simp[Co,Vl.what,Vl.kids]
   omega
  |@rcd _ _ t fs hs hb ht h2 hf h hn hp=>
   have h1:=Ys (F:=Co d) (st:=fun i=>(fs.map (·.1.tag)).getD i 0) (fs.map (·.2)) fun x hx=>by
    obtain⟨p,hp,rfl⟩:=List.mem_map.1 hx
    exact ih _ _ (h p hp)
   rw[Rz]at h1
   have e:Co (d+1) (.mk 82 [] 0 (fs.map Do))=fs.flatMap fun p=>(Co d p.2).map (p.1.tag :: ·):=by simp[Co,Vl.what,Vl.kids,List.flatMap_map,Do,Qeh,Vl.tag]
   have e2:Df ((fs.map (·.2)).map Bg)<=Df (fs.map fun p=>Bg (Do p)):=by
    clear h hn hp hf h1 e
    induction fs with
    |nil=>simp
    |cons p fs ih=>
     simp only[List.map_cons,Er]
     have:(Bg p.2).length<=(Bg (Do p)).length:=by simp[Do,Bg,D2,G1,Aq];omega
     omega
   rw[e,Pn]
   have:=Bw 44 (fs.map fun p=>Bg (Do p))
   simp only[List.length_cons,List.length_append]
   omega
theorem Qdf{q:List Nat}(h:q≠[]):Ae 47 (En q)=q.map An:=G0 47 _ (by simpa using h) fun p hp hc=>by
 obtain⟨g,_,rfl⟩:=List.mem_map.1 hp
 have:=List.all_eq_true.1 (Kp g) 47 hc
 exact absurd this (by decide)
theorem Qfk{S:List Ty}(hS:∀t∈S,Du t):∀(d:Nat) (k:Kd) (v:Vl),J9 S d k v->∀q∈Co d v,q.length<=d/\∀g∈q,g<=1000:=by
 intro d
 induction d with
 |zero=>intro k v h;cases h
 |succ d ih=>
  intro k v h
  have key:∀(g:Nat) (x:Vl) (kx:Kd),g<=1000->J9 S d kx x->∀q∈(Co d x).map (g :: ·),q.length<=d+1/\∀g∈q,g<=1000:=by
   intro g x kx hg hx q hq
   obtain⟨r,hr,rfl⟩:=List.mem_map.1 hq
   obtain⟨h1,h2⟩:=ih kx x hx r hr
   exact⟨by simpa using h1,fun y hy=>by rcases List.mem_cons.1 hy with rfl|hy;exact hg;exact h2 y hy⟩
  have kst:∀(F:Nat) (ys:List Vl) (kx:Kd),F+ys.length<=1000->(∀x∈ys,J9 S d kx x)->∀q∈Rv (Co d) F ys,q.length<=d+1/\∀g∈q,g<=1000:=by
   intro F ys kx
   induction ys generalizing F with
   |nil=>intro _ _ q hq;cases hq
   |cons x ys ih2=>
    intro hF hx q hq
    rw[Rv,List.mem_append]at hq
    simp only[List.length_cons]at hF
    rcases hq with hq|hq
    ·exact key F x kx (by omega) (hx x (by simp)) q hq
    exact ih2 (F+1) (by omega) (fun y hy=>hx y (by simp[hy])) q hq
  have hnil:∀q∈([[]]:List (List Nat)),q.length<=d+1/\∀g∈q,g<=1000:=by intro q hq;simp at hq;subst hq;simp
  cases h with
  |n=>exact hnil
  |t=>exact hnil
  |f=>exact hnil
  |enm=>exact hnil
  |non=>exact hnil
  |@lst _ _ r ks hs hl h=>exact kst 0 ks k.part (by omega) h
  |@som _ _ r x hs h=>exact kst 0 [x] k.part (by simp) (by simpa using h)
  |@uni _ _ t f x hs hb ht h5 hf h=>
   have e:Co (d+1) (.mk 85 [] f.tag [x])=(Co d x).map (f.tag :: ·):=by simp[Co,Vl.what,Vl.kids,Vl.tag]
   rw[e]
   exact key f.tag x f.kind (by have:=((hS t (Bq ht).1).2.2.1.1 f (Bn hf).2).2.1;omega) h
  |@rcd _ _ t fs hs hb ht h2 hf h hn hp=>
   have e:Co (d+1) (.mk 82 [] 0 (fs.map Do))=fs.flatMap fun p=>(Co d p.2).map (p.1.tag :: ·):=by simp[Co,Vl.what,Vl.kids,List.flatMap_map,Do,Qeh,Vl.tag]
   rw[e]
   intro q hq
   obtain⟨p,hp,hq⟩:=List.mem_flatMap.1 hq
   exact key p.1.tag p.2 p.1.kind (by have:=((hS t (Bq ht).1).2.2.1.1 p.1 (Bn (hf p hp)).2).2.1;omega) (h p hp) q hq
theorem Qb0:∀{q:List Nat},(∀g∈q,g<=1000)->(En q).length<=5*q.length:=by
 intro q h
 unfold En
 rw[Bw]
 have:Df (q.map An)<=5*q.length:=by
  induction q with
  |nil=>simp[Df]
  |cons g q ih=>
   rw[List.map_cons,Er]
   have:=C0 3 g (by have e:10 ^ (3+1)=10000:=rfl;have:=h g (by simp);omega)
   have:=ih fun x hx=>h x (by simp[hx])
   simp only[List.length_cons]
   omega
 omega
theorem Qgw{S:List Ty}{d:Nat}{k:Kd}{v:Vl}(h:J9 S (d+1) k v)(hS:∀t∈S,Du t):
  ((v.what=110\/v.what=116\/v.what=102\/v.what=69\/v.what=63/\v.kids.length=0)/\Co (d+1) v=[[]]) \/
  ((v.what=91\/v.what=63/\v.kids.length≠0\/v.what=85\/v.what=82)/\∃(st:Nat->Nat) (ys:List (Kd × Vl)),ys.length=v.kids.length/\v.kids.length<=1000/\v.tag<=1000/\(∀i,st i<=1000\/ys.length<=i)/\(∀y∈ys,J9 S d y.1 y.2)/\Co (d+1) v=Ct (Co d) st (ys.map (·.2)) /\
   (v.what=91\/v.what=63->(∀i,st i=i)/\v.kids=ys.map (·.2))/\(v.what=85->(∀i,st i=v.tag)/\v.kids=ys.map (·.2))/\(v.what=82->v.kids=(List.range ys.length).zipWith (fun i y=>.mk 61 [] (st i) [y.2]) ys)):=by
 cases h with
 |n hs hb h=>exact .inl ⟨.inl rfl,rfl⟩
 |t hs hb h=>exact .inl ⟨.inr (.inl rfl),rfl⟩
 |f hs hb=>exact .inl ⟨.inr (.inr (.inl rfl)),rfl⟩
 |enm hs hb ht h9 hf=>exact .inl ⟨.inr (.inr (.inr (.inl rfl))),rfl⟩
 |non hs=>exact .inl ⟨.inr (.inr (.inr (.inr ⟨rfl,rfl⟩))),rfl⟩
 |@lst _ _ r ks hs hl h=>
  have e2:(ks.map fun x=>(k.part,x)).map (·.2)=ks:=by rw[List.map_map];exact List.map_id ks
  refine .inr ⟨.inl rfl,fun i=>i,ks.map fun x=>(k.part,x),by simp[Vl.kids],by simp only[Vl.kids];omega,by simp[Vl.tag],fun i=>by simp;omega,?_,?_,fun _=>⟨fun _=>rfl,e2.symm⟩,fun h=>absurd h (by simp[Vl.what]),fun h=>absurd h (by simp[Vl.what])⟩
  ·intro y hy
   obtain⟨x,hx,rfl⟩:=List.mem_map.1 hy
   exact h x hx
  rw[e2,P3];rfl
 |@som _ _ r x hs h=>
  refine .inr ⟨.inr (.inl ⟨rfl,by simp[Vl.kids]⟩),fun i=>i,[(k.part,x)],rfl,by simp[Vl.kids],by simp[Vl.tag],fun i=>by simp;omega,by simpa using h,?_,fun _=>⟨fun _=>rfl,rfl⟩,fun h=>absurd h (by simp[Vl.what]),fun h=>absurd h (by simp[Vl.what])⟩
  show Co (d+1) (.mk 63 [] 0 [x])=Ct (Co d) (fun i=>i) [x]
  rw[P3]
  simp[Co,Vl.what,Vl.kids]
 |@uni _ _ t f x hs hb ht h5 hf h=>
  have hg:=((hS t (Bq ht).1).2.2.1.1 f (Bn hf).2).2.1
  refine .inr ⟨.inr (.inr (.inl rfl)),fun _=>f.tag,[(f.kind,x)],rfl,by simp[Vl.kids],by simp only[Vl.tag];omega,fun i=>.inl (show f.tag<=1000 by omega),by simpa using h,?_,fun h=>absurd h (by simp[Vl.what]),fun _=>⟨fun _=>rfl,rfl⟩,fun h=>absurd h (by simp[Vl.what])⟩
  simp[Co,Vl.what,Vl.kids,Vl.tag,Ct]
 |@rcd _ _ t fs hs hb ht h2 hf h hn hp=>
  have hg:=fun p (hp:p∈fs)=>((hS t (Bq ht).1).2.2.1.1 p.1 (Bn (hf p hp)).2).2.1
  have h8:=(hS t (Bq ht).1).2.2.2.1
  have h0:(fs.map (·.1)).length<=t.fields.length:=Rx (fs.map (·.1)) t.fields (by
   rw[List.Nodup,List.pairwise_map]
   exact hp.imp fun h e=>by rw[e]at h;omega) (fun x hx=>by
   obtain⟨p,hp,rfl⟩:=List.mem_map.1 hx
   exact(Bn (hf p hp)).2)
  rw[List.length_map]at h0
  refine .inr ⟨.inr (.inr (.inr rfl)),fun i=>(fs.map (·.1.tag)).getD i 0,fs.map fun p=>(p.1.kind,p.2),by simp[Vl.kids],by simp only[Vl.kids,List.length_map];omega,by simp[Vl.tag],fun i=>?_,?_,?_,fun h=>absurd h (by simp[Vl.what]),fun h=>absurd h (by simp[Vl.what]),fun _=>?_⟩
  ·by_cases hi:i<fs.length
   ·left
    have:=hg fs[i] (List.getElem_mem hi)
    show (fs.map (·.1.tag)).getD i 0<=1000
    rw[List.getD_eq_getElem?_getD,List.getElem?_map,List.getElem?_eq_getElem hi]
    simp only[Option.map_some,Option.getD_some]
    omega
   right;simp;omega
  ·intro y hy
   obtain⟨p,hp,rfl⟩:=List.mem_map.1 hy
   exact h p hp
  ·rw[List.map_map]
   refine Eq.trans ?_ (Rz (Co d) (fun p:Fd × Vl=>p.1.tag) (fun p:Fd × Vl=>p.2) fs).symm
   simp[Co,Vl.what,Vl.kids,List.flatMap_map,Do,Qeh,Vl.tag]
  show fs.map Do=_
  apply List.ext_getElem
  ·simp
  intro i h1 h2
  simp only[List.length_map]at h1
  simp[Do,List.getD,h1]
section
attribute [local go_sem] Qhy Qhh Qg3 Qfo ByteArray.mk_append_mk
theorem Ak{c d:UInt8}(h:c≠d):((c.toNat:Int) == (d.toNat:Int))=false:=by
 rw[beq_eq_false_iff_ne];intro e;exact h (UInt8.toNat_inj.1 aG)
theorem Bj{c d:UInt8}(h:c=d):((c.toNat:Int) == (d.toNat:Int))=true:=by rw[h];simp
theorem Qdp(n a b:Int)(w:World):
  Calls prog 162 #[.int .i64 n,.int .i64 a,.int .i64 b] w fun e w'=>e=.returned (.bool (decide (a<=n) && decide (n<=b)))/\w=w':=by
 go_enter func162,ntmps162;by_cases h1:a<=n
 ·have t1:decide (a<=n)=true:=dv;rw[t1];go_wp2
  exact gD
 have t1:decide (a<=n)=false:=dv;rw[t1];go_wp2
 exact gD
theorem Cc(s:List UInt8)(w:World)(hs:s.length<=9223372036854775807):
  Calls prog 128 #[s] w fun e w'=>e=.returned (.bool (At s))/\w=w':=by
 go_enter func128,ntmps128;go_wp2
 go_loop [3] (fun i=>∃k:Nat,k<=s.length/\i=.int .i64 k/\Hid (∀c∈s.take k,Gg c=true)) (fun i=>s.length - (intOf i).toNat)
 case atStart=>exact⟨0,ag _,rfl,by intro c hc;simp at hc⟩
 case round=>
  obtain⟨k,hk,rfl,hin⟩:=hrel;by_cases hlt:k<s.length
  ·have hc:(s[k]).toNat<256:=(s[k]).toNat_lt;have Hts:=Aa (Be s k hlt);have Hm:=Aa (ae hlt);by_cases h1:Gg s[k]=true
   ·have h2:=Kn.1 h1;obtain⟨h3,h4⟩:=h2;have H1:=Aa h1;clear h1;go_wp2
    go_round
    case rel=>
     refine⟨k+1,by omega,by go_num,?_⟩;intro c hc;rw[Hts.o]at hc;rcases af.1 hc with hc|hc
     ·exact hin.o c hc
     ·simp at hc;subst hc;exact H1.o
    case measure=>simp[intOf];omega
   have hno:At s=false:=by
    cases hh:At s with
    |false=>rfl
    |true=>exact absurd ((Ek.1 hh).2.2 _ Hm.o) h1
   have Hno:=Aa hno;have h2:(s[k]).toNat<97\/122<(s[k]).toNat:=by
    rcases aF (s[k]).toNat 97 with h|h
    ·exact .inl h
    rcases aF 122 (s[k]).toNat with h'|h'
    ·exact .inr h'
    exact absurd (Kn.2 ⟨h,h'⟩) h1
   clear h1 hno;rcases h2 with h2|h2
   ·go_wp2
    go_ret;exact⟨Dj (Ce Hno.o.symm),rfl⟩
   have h3:97<=(s[k]).toNat:=aG;go_wp2
   go_ret;exact⟨Dj (Ce Hno.o.symm),rfl⟩
  ·have hfin:(decide ((1:Int)<=(s.length:Int)) && decide ((s.length:Int)<=3))=At s:=by
    have hall:s.all Gg=true:=List.all_eq_true.2 (fun c hc=>hin.o c (by rw[ar aG];exact hc));unfold At;rw[hall,Bool.and_true];congr 1<;>· rw[decide_eq_decide];omega
   have Hfin:=Aa hfin;clear hfin;go_wp2_with fail;refine(Qdp _ _ _ _).mono ?_;rintro e w' ⟨rfl,rfl⟩;go_wp2_with fail;go_ret;exact⟨Dj (Ce Hfin.o),rfl⟩
theorem Sx(c:UInt8)(t:List UInt8)(hc:Bl c=true):(Cg (c::t)).isSome=(decide (t.length<12) && (Cg t).isSome):=by
 unfold Cg;simp only[List.dropWhile_cons,List.takeWhile_cons,hc,if_true];by_cases h:12<(c::t).length
 ·exact gq
 rw[if_neg h];simp at h;have h2:¬12<t.length:=aG;have:t.length<12:=aG;rw[if_neg h2];simp only[this,decide_true,Bool.true_and];by_cases h3:t.dropWhile Bl=[110]\/t.dropWhile Bl=[116]\/t.dropWhile Bl=[102]
 ·rw[if_pos h3,if_pos h3];rfl
 rw[if_neg h3,if_neg h3];by_cases h4:(t.dropWhile Bl).head?=some 64/\(t.dropWhile Bl).getLast?=some 59/\At ((t.dropWhile Bl).drop 1).dropLast=true
 ·rw[if_pos h4,if_pos h4];rfl
 rw[if_neg h4,if_neg h4]
theorem Qel(t:List UInt8):(Cg (64::t)).isSome=(decide (t.length<12) && decide ((64::t).getLast?=some 59) && At t.dropLast):=by
 unfold Cg;have h64:Bl 64=false:=aJ;simp only[List.dropWhile_cons,List.takeWhile_cons,h64];by_cases h:12<(64::t).length
 ·exact gq
 rw[if_neg h];simp at h;have:t.length<12:=aG;simp[this];split
 ·rename_i hh;simp[hh]
 rename_i hh;simp only[Option.isSome_none];cases hn:At t.dropLast with
 |false=>simp
 |true=>simp[hn]at hh;simp[hh]
theorem Zy(c:UInt8)(t:List UInt8)(h1:Bl c=false)(h2:c≠64):(Cg (c::t)).isSome=(decide (c::t=[110]) || decide (c::t=[116]) || decide (c::t=[102])):=by
 unfold Cg;simp only[List.dropWhile_cons,List.takeWhile_cons,h1];by_cases h:12<(c::t).length
 ·rw[if_pos h];simp at h;have e:t≠[]:=by rintro rfl;simp at h
  simp[e]
 rw[if_neg h];by_cases h3:c::t=[110]\/c::t=[116]\/c::t=[102]
 ·simp only[an,if_false];rw[if_pos h3];rcases h3 with h3|h3|h3<;>simp[h3]
 simp only[an,if_false];rw[if_neg h3,if_neg (by simp[h2])];simp only[not_or]at h3;simp[h3]
theorem Kz:∀(n:Nat) (s:List UInt8) (w:World),s.length<=n->s.length<=9223372036854775807 ->
  Calls prog 85 #[s] w fun e w'=>e=.returned (.bool (Cg s).isSome)/\w=w':=by
 intro n;induction n with
 |zero=>
  intro s w hn hs;obtain rfl:s=[]:=List.eq_nil_of_length_eq_zero aG;go_enter func85,ntmps85;go_wp2_with fail;exact gD
 |succ n ih=>
  intro s w hn hs;have Ih:=Aa ih;clear ih;by_cases h12:12<s.length
  ·have Hf:=Aa (show (Cg s).isSome=false by unfold Cg;rw[if_pos h12];rfl);go_enter func85,ntmps85;go_wp2_with fail;exact gE
  cases s with
  |nil=>
   go_enter func85,ntmps85;go_wp2_with fail;exact gD
  |cons c t=>
   have hlt:t.length<12:=by simp at h12;omega
   have hn':t.length<=n:=by simp at hn;omega
   have hc:=c.toNat_lt;by_cases h91:c=91
   ·have Hf:=Aa (show (Cg (c::t)).isSome=(Cg t).isSome by rw[Sx c t (by rw[h91];decide)];simp[hlt]);have e1:c.toNat=91:=by rw[h91];rfl
    have t1:((c.toNat:Int) == 91)=true:=by simp[e1]
    clear h91 e1;go_enter func85,ntmps85;go_wp2_with fail;refine(Ih.o t _ hn' aG).mono ?_;rintro e w' ⟨rfl,rfl⟩;go_wp2_with fail;exact gE
   have t1:((c.toNat:Int) == 91)=false:=Ak h91;by_cases h63:c=63
   ·have Hf:=Aa (show (Cg (c::t)).isSome=(Cg t).isSome by rw[Sx c t (by rw[h63];decide)];simp[hlt]);have e1:c.toNat=63:=by rw[h63];rfl
    have t2:((c.toNat:Int) == 63)=true:=by simp[e1]
    clear h63 h91 e1;go_enter func85,ntmps85;go_wp2_with fail;refine(Ih.o t _ hn' aG).mono ?_;rintro e w' ⟨rfl,rfl⟩;go_wp2_with fail;exact gE
   have t2:((c.toNat:Int) == 63)=false:=Ak h63;by_cases h64:c=64
   ·have e1:c.toNat=64:=by rw[h64];rfl
    have t3:((c.toNat:Int) == 64)=true:=by simp[e1]
    rcases Dv t with rfl|⟨u,d,rfl⟩
    ·have Hf:=Aa (show (Cg [c]).isSome=false by rw[h64];decide);have t4:((c.toNat:Int) == 59)=false:=by simp[e1]
     clear h64 h63 h91 e1;go_enter func85,ntmps85;go_wp2_with fail;exact gE
    have hk:=Qel (u++[d]);have hl:(c::(u++[d])).getLast?=some d:=by
     exact gF
    rw[<-h64,hl,List.dropLast_concat]at hk;have hd:=d.toNat_lt;simp at hlt;have hgd:∀h,(c::(u++[d]))[u.length+1]'h=d:=by
     intro h;simp
    have hsl:(List.take u.length (u++[d]))=u:=aK;by_cases h59:d=59
    ·have e2:d.toNat=59:=by rw[h59];rfl
     have t4:((d.toNat:Int) == 59)=true:=by simp[e2]
     have Hf:=Aa (show (Cg (c::(u++[d]))).isSome=At u by rw[hk,h59];simp;omega);clear h64 h63 h91 e1 hk hl h59 e2;go_enter func85,ntmps85;go_wp2_with fail;refine(Cc u _ aG).mono ?_;rintro e w' ⟨rfl,rfl⟩;go_wp2_with fail;exact gE
    have t4:((d.toNat:Int) == 59)=false:=Ak h59;have Hf:=Aa (show (Cg (c::(u++[d]))).isSome=false by rw[hk];simp[h59]);clear h64 h63 h91 e1 hk hl h59;go_enter func85,ntmps85;go_wp2_with fail;exact gE
   have t3:((c.toNat:Int) == 64)=false:=Ak h64;have hk:=Zy c t (by simp[Bl,h91,h63]) h64;have Hk:=Aa hk;clear hk h64 h63 h91;cases t with
   |cons x t=>
    have hl2:t.length+1+1<=12:=by simp at hlt;omega
    have Hf:=Aa (show (Cg (c::x::t)).isSome=false by rw[Hk.o];simp);clear Hk;go_enter func85,ntmps85;go_wp2_with fail;all_goals
     go_ret;exact⟨Dj (Ce (by rw[Hf.o])),rfl⟩
   |nil=>
    by_cases g1:c=110
    ·subst g1;go_enter func85,ntmps85;go_wp2_with fail;exact gD
    by_cases g2:c=116
    ·subst g2;go_enter func85,ntmps85;go_wp2_with fail;exact gD
    by_cases g3:c=102
    ·subst g3;go_enter func85,ntmps85;go_wp2_with fail;exact gD
    have Hf:=Aa (show (Cg [c]).isSome=false by rw[Hk.o];simp[g1,g2,g3]);go_enter func85,ntmps85;go_wp2_with fail;go_ret;exact⟨Dj (Ce (by rw[Hf.o];simp[g1,g2,g3])),rfl⟩
def Nz:Value->Nat
 |.string b=>b.size
 |_=>0
theorem Jb(l:List UInt8):Nz l=l.length:=rfl
theorem Qao(k:Kd)(w:World)(hk:k.signs.all Bl=true)(hb:∃c t,Cd k=c::t/\Bl c=false)(hs:(Bp k).length<=9223372036854775807):
  Calls prog 87 #[.string ⟨(Bp k).toArray⟩] w fun e w'=>e=.returned (.string ⟨(Cd k).toArray⟩)/\w=w':=by
 obtain⟨d,u,hcu,hd⟩:=hb;have hlen:(Bp k).length=k.signs.length+(u.length+1):=by unfold Bp;rw[hcu];simp
 unfold Bp;rw[hcu];generalize k.signs=g at hk hlen;clear hcu;have hd1:d≠91:=by rintro rfl;revert hd;decide
 have hd2:d≠63:=by rintro rfl;revert hd;decide
 have d1:((d.toNat:Int) == 91)=false:=Ak hd1;have d2:((d.toNat:Int) == 63)=false:=Ak hd2;have hdl:=d.toNat_lt;clear hd hd1 hd2;have hs2:g.length+u.length+1<=9223372036854775807:=aG;have Hk:=Aa (List.all_eq_true.1 hk);clear hs hlen hk;go_enter func87,ntmps87;go_wp2_with fail;go_loop [0] (fun x=>∃k:Nat,k<=g.length/\x=.string ⟨(g.drop k++d::u).toArray⟩) (fun x=>Nz x)
 case atStart=>exact⟨0,ag _,rfl⟩
 case round=>
  obtain⟨k,hk,rfl⟩:=hrel;by_cases hlt:k<g.length
  ·have hdr:g.drop k=g[k]::g.drop (k+1):=List.drop_eq_getElem_cons hlt;have hl3:(g.drop (k+1)).length<=g.length:=aK;have hsg:=Hk.o _ (ae hlt);have hc:=(g[k]).toNat_lt;rw[hdr];generalize g[k]=c at hsg hc;have hsg2:c=91\/c=63:=by simpa [Bl]using hsg
   have Hd:=Aa hdr;clear hsg hdr;rcases hsg2 with h91|h63
   ·have t1:((c.toNat:Int) == 91)=true:=Bj h91;clear h91;go_wp2_with fail;go_round
    case rel=>exact⟨k+1,by omega,Qex (ar aK)⟩
    case measure=>rw[Jb,Jb];simp
   have t1:((c.toNat:Int) == 91)=false:=Ak (d:=91) (by rw[h63];decide);have t2:((c.toNat:Int) == 63)=true:=Bj h63;clear h63;go_wp2_with fail;go_round
   case rel=>exact⟨k+1,by omega,Qex (ar aK)⟩
   case measure=>rw[Jb,Jb];simp
  ·rw[List.drop_of_length_le aG,List.nil_append];go_wp2_with fail;exact gD
theorem Va(nm:List UInt8)(w:World)(hn:nm.length<=1000):
  Calls prog 86 #[.string ⟨(64::(nm++[59])).toArray⟩] w fun e w'=>e=.returned (.tuple #[nm,.bool true])/\w=w':=by
 have h1:(nm++[59]).take nm.length=nm:=aK;go_enter func86,ntmps86;go_wp2_with fail;go_ret2;exact gC
theorem Zw(c:UInt8)(t:List UInt8)(w:World)(hc:c≠64)(hn:t.length<=1000):
  Calls prog 86 #[.string ⟨(c::t).toArray⟩] w fun e w'=>e=.returned (.tuple #[a8,.bool false])/\w=w':=by
 have t1:((c.toNat:Int) != 64)=true:=by
  have:=Ak hc;rw[bne_iff_ne];intro e;have h64:((64:UInt8).toNat:Int)=64:=rfl;rw[beq_eq_false_iff_ne,h64]at this;exact this e
 clear hc;go_enter func86,ntmps86;go_wp2_with fail;go_ret2;exact gC
theorem T7(n:Nat)(w:World)(hn:n<10):
  Calls prog 79 #[.int .i64 n] w fun e w'=>e=.returned (.string ⟨(An n).toArray⟩)/\Below w w w':=by
 have Hfin:=Aa (Dy hn);have hcv:=fun W=>Qbh W w 1 (D1 (48+n));rw[Ej aG]at hcv;go_enter func79,ntmps79;go_wp2_with fail;exact gG
theorem Qa1(n:Nat)(h10:¬n<10)(hn:n<=1000000000)(ih:∀W,Calls prog 79 #[.int .i64 ((n / 10:Nat):Int)] W fun e w'=>e=.returned (.string ⟨(An (n / 10)).toArray⟩)/\Below W W w')(w:World):
  Calls prog 79 #[.int .i64 n] w fun e w'=>e=.returned (.string ⟨(An n).toArray⟩)/\Below w w w':=by
 have Hfin:=Aa (Kq h10);have ih':=Aa ih;have hl:=C0 8 (n / 10) eh;clear ih;have hcv:=fun W g=>Qbh W g 1 (D1 (48+n % 10));have h1:IntKind.u8.wrap (IntKind.i64.wrap (48+(n:Int).tmod 10))=((D1 (48+n % 10)).toNat:Int):=by
  rw[Ej aG,Int.tmod_eq_emod_of_nonneg aG,IntWalk.i64_in _ aG,IntWalk.u8_in _ aG];omega
 have h2:IntKind.i64.wrap ((n:Int) / 10)=((n / 10:Nat):Int):=by rw[IntWalk.i64_in _ aG];omega
 go_enter func79,ntmps79;go_wp2_with fail;go_region_with (go_at_call 79;refine(ih'.out _).mono ?_;rintro e w' ⟨rfl,hb⟩;obtain⟨hc,hf,hz⟩:=Bv hb)
 all_goals
  go_wp2
  go_ret;refine⟨by rw[Hfin.o];rfl,?_⟩;have hsz:=hb.size;repeat (first|exact Au _ _|refine Below.drew ?_|refine Below.alloc ?_ (by simp at hsz ⊢;first|omega|done) _|refine Below.trans ?_ (hb.mono aK))
theorem Fi:∀(k n:Nat) (w:World),n<=k->n<=1000000000 ->
  Calls prog 79 #[.int .i64 n] w fun e w'=>e=.returned (.string ⟨(An n).toArray⟩)/\Below w w w':=by
 intro k;induction k with
 |zero=>intro n w hn h;exact T7 n w aG
 |succ k ih=>
  intro n w hn h;by_cases h10:n<10
  ·exact T7 n w h10
  exact Qa1 n h10 h (fun W=>ih (n / 10) W aG aG) w
end
section
variable {P:Program} {ops:Array Oper} {Q:Exit->Act->World->Prop}
theorem Bc{id:Nat}{a:Act}{w:World}(S:List Nat)(hm:P.follows .mixedOrders=true)(hac:(List.range ops.size).all (fun i=>((ops[i]?).map fun o=>o.after.all fun e=>!Region.binds .any e || decide (e.on<i)).getD true)=true)
  (hS:Gt a.tmps.size ops.toList S=true) {mk:(Nat->Value)->Act} (hmk:∀u,Br a S u=mk u)
  (φ:Nat->Value->World->Prop) (R:(Nat->Bool)->(Nat->Value)->World->Prop) (Rel:World->World->Prop)
  (hst:∀w w',Rel w w'->∀i v,φ i v w->φ i v w')
  (h0:R (fun _=>false) (fun i=>a.tmps.toList.getD (S.getD i 0) undef) w.drew)
  (hstep:Ar (fun i o=>∀(l:Nat->Bool) u w,l i=false->(∀e∈o.after,Region.binds .any e=true->l e.on=true/\φ e.on (u e.on) w)->R l u w ->
   (∀j,l j=false->u j=a.tmps.toList.getD (S.getD j 0) undef)->(∀(j:Nat) (o:Oper),ops[j]?=some o->∀e∈o.after,Region.binds .any e=true->l e.on=false->l j=false) ->
   ∀K:Act->World->Prop,(∀v w' a',φ i v w'->Rel w w'->R (fun j=>if j=i then true else l j) (fun j=>if j=i then v else u j) w'->a'=(mk u).put o.dst v->K a' w') ->
    if Region.wanted o (yielded ops (mk u).tmps)=true then Oper.wp P o (mk u) w K Q else K ((mk u).put o.dst undef) w) 0 ops.toList)
  (hdone:∀(l:Nat->Bool) u w,(∀i,i<ops.size->l i=true)->(∀i,i<ops.size->φ i (u i) w)->R l u w->Q .normal (mk u) w):(Code.region id ops true).wp P Q a w:=by
 obtain rfl:Br a S=mk:=funext hmk;obtain⟨hn,hs⟩:=Ky hS;have hput:∀(i:Nat) (o:Oper),ops.toList[i]?=some o->∀u v,(Br a S u).put o.dst v=Br a S (fun j=>if j=i then v else u j):=by
  intro i o ho u v;obtain⟨s,hsi,hd|⟨hd,hb⟩⟩:=hs i o ho
  ·exact fR
  have e:=M1 S 0 u a.tmps.toList i s v hsi (by simpa using hb);rw[am]at e;unfold Br Act.put;rw[hd];simp only[<-e]
 have hac':∀(i:Nat) (o:Oper),ops[i]?=some o->∀e∈o.after,Region.binds .any e=true->e.on<i:=by
  intro i o ho e he hbd;have hlt:i<ops.size:=(Array.getElem?_eq_some_iff.1 ho).1;have h:=List.all_eq_true.1 hac i (List.mem_range.2 hlt);rw[ho]at h;have:=Array.all_eq_true_iff_forall_mem.1 h e he;simpa [hbd]using this
 refine wp_region_any hm ?_
 refine Vn hac' (fun l b w=>∃u,b=Br a S u/\(∀i,l i=true->i<ops.size->φ i (u i) w)/\R l u w/\(∀j,l j=false->u j=a.tmps.toList.getD (S.getD j 0) undef) /\
   (∀(j:Nat) (o:Oper),ops[j]?=some o->∀e∈o.after,Region.binds .any e=true->l e.on=false->l j=false)) ?_ ?_ ops.size _ a _ aK (by
  unfold Ps;exact ad (List.length_filter_le _ _) aK) ⟨fun i=>a.tmps.toList.getD (S.getD i 0) undef,?_,?_,?_,fun _ _=>rfl,?_⟩
 ·rintro l b w i o ho hl hpre ⟨u,rfl,hφ,hR,hi,hdn⟩;have ho':ops.toList[i]?=some o:=by simpa using ho
  have hp:=hput i o ho';have hs':=hstep i o ho';rw[am]at hs';refine wpOp_step ho fun K' hK'=>?_;refine hs' l u w hl (fun e he hb=>⟨hpre e he hb,hφ e.on (hpre e he hb) ?_⟩) hR hi hdn K' (fun v w' a' hv hrel hR' ha'=>hK' _ _ ⟨_,ha'.trans (hp u v),fun j hj hjs=>?_,hR',fun j hj=>?_,fun j o' hj e he hb hle=>?_⟩)
  ·exact gd
  ·by_cases hji:j=i
   ·subst hji;simpa using hv
   have hj':l j=true:=ef;simpa [hji]using hst w w' hrel j _ (hφ j hj' hjs)
  ·by_cases hji:j=i
   ·subst hji;simp at hj
   have hj':l j=false:=ef;simpa [hji]using hi j hj'
  have hne:e.on≠i:=by rintro rfl;simp at hle
  have hle':l e.on=false:=by simpa [hne]using hle
  have hlj:=hdn j o' hj e he hb hle';have hji:j≠i:=by
   rintro rfl;rw[ho]at hj;injection hj with hj;subst hj;rw[hpre e he hb]at hle';cases hle'
  simpa [hji]using hlj
 ·rintro l b w hl ⟨u,rfl,hφ,hR,_,_⟩;exact gA
 ·exact gx
 ·intro i hi;simp[Array.getD]at hi
 ·have e:(fun j=>(Array.replicate ops.size false).getD j false)=fun _=>false:=by
   funext j
   simp[Array.getD]
  rw[e];exact h0
 intro j o hj e he hb _;simp[Array.getD]
end
theorem Bx{ops:Array Oper}{l:Nat->Bool}(h:∀(j:Nat) (o:Oper),ops[j]?=some o->∀e∈o.after,Region.binds .any e=true->l e.on=false->l j=false)(j i:Nat)(hc:((ops[j]?).map fun o=>o.after.toList.any fun e=>decide (e.on=i) && Region.binds .any e)=some true)(hi:l i=false):l j=false:=by
 cases ho:ops[j]? with
 |none=>rw[ho]at hc;cases hc
 |some o=>
  rw[ho]at hc;have hc:(o.after.toList.any fun e=>decide (e.on=i) && Region.binds .any e)=true:=by injection hc
  obtain⟨e,he,h2⟩:=List.any_eq_true.1 hc;rw[av,decide_eq_true_iff]at h2;obtain⟨rfl,h3⟩:=h2;exact h j o ho e cz h3 hi
theorem rgE{P:Program}{ops:Array Oper}{Q:Exit->Act->World->Prop}{id:Nat}{a:Act}{w:World}(S:List Nat){mk:(Nat->Value)->Act}
  (φ:Nat->Value->World->Prop) (R:(Nat->Bool)->(Nat->Value)->World->Prop)
  (h0:R (fun _=>false) (fun i=>a.tmps.toList.getD (S.getD i 0) undef) w.drew)
  (hstep:Ar (fun i o=>∀(l:Nat->Bool) u w,l i=false->(∀e∈o.after,Region.binds .any e=true->l e.on=true/\φ e.on (u e.on) w)->R l u w ->
   (∀j,l j=false->u j=a.tmps.toList.getD (S.getD j 0) undef)->(∀(j:Nat) (o:Oper),ops[j]?=some o->∀e∈o.after,Region.binds .any e=true->l e.on=false->l j=false) ->
   ∀K:Act->World->Prop,(∀v w' a',φ i v w'->True->R (fun j=>if j=i then true else l j) (fun j=>if j=i then v else u j) w'->a'=(mk u).put o.dst v->K a' w') ->
    if Region.wanted o (yielded ops (mk u).tmps)=true then Oper.wp P o (mk u) w K Q else K ((mk u).put o.dst undef) w) 0 ops.toList)
  (hdone:∀(l:Nat->Bool) u w,(∀i,i<ops.size->l i=true)->(∀i,i<ops.size->φ i (u i) w)->R l u w->Q .normal (mk u) w)
  (hc:(P.follows .mixedOrders && (List.range ops.size).all (fun i=>((ops[i]?).map fun o=>o.after.all fun e=>!Region.binds .any e || decide (e.on<i)).getD true) && Gt a.tmps.size ops.toList S)=true:=by kernel_rfl) (hst:∀w w':World,True->∀i v,φ i v w->φ i v w':=by exact fun _ _ _ _ _ h=>h) (hmk:∀u,Br a S u=mk u:=by intro u;dsimp only[Br,Bh,List.set,am,Nat.reduceAdd]):(Code.region id ops true).wp P Q a w:=
 have h1:=Bool.and_eq_true_iff.1 hc;have h2:=Bool.and_eq_true_iff.1 h1.1;Bc S h2.1 h2.2 h1.2 hmk φ R (fun _ _=>True) hst h0 hstep hdone
theorem N4{P:Program}{ops:Array Oper}{Q:Exit->Act->World->Prop}{id:Nat}{a:Act}{w:World}(S:List Nat){mk:(Nat->Value)->Act}
  (φ:Nat->Value->World->Prop) (R:(Nat->Bool)->(Nat->Value)->World->Prop)
  (h0:R (fun _=>false) (fun i=>a.tmps.toList.getD (S.getD i 0) undef) w.drew)
  (hstep:Ar (fun i o=>∀(l:Nat->Bool) u w,l i=false->(∀e∈o.after,Region.binds .any e=true->l e.on=true/\φ e.on (u e.on) w)->Hid (R l u w)->Hid (∀(j:Nat) (o:Oper),ops[j]?=some o->∀e∈o.after,Region.binds .any e=true->l e.on=false->l j=false) ->
   ∀K:Act->World->Prop,(∀v w' a',φ i v w'->True->R (fun j=>if j=i then true else l j) (fun j=>if j=i then v else u j) w'->a'=(mk u).put o.dst v->K a' w') ->
    if Region.wanted o (yielded ops (mk u).tmps)=true then Oper.wp P o (mk u) w K Q else K ((mk u).put o.dst undef) w) 0 ops.toList)
  (hdone:∀(l:Nat->Bool) u w,(∀i,i<ops.size->l i=true)->(∀i,i<ops.size->φ i (u i) w)->R l u w->Q .normal (mk u) w)
  (hc:(P.follows .mixedOrders && (List.range ops.size).all (fun i=>((ops[i]?).map fun o=>o.after.all fun e=>!Region.binds .any e || decide (e.on<i)).getD true) && Gt a.tmps.size ops.toList S)=true:=by kernel_rfl) (hst:∀w w':World,True->∀i v,φ i v w->φ i v w':=by exact fun _ _ _ _ _ h=>h) (hmk:∀u,Br a S u=mk u:=by intro u;dsimp only[Br,Bh,List.set,am,Nat.reduceAdd]):(Code.region id ops true).wp P Q a w:=
 have h1:=Bool.and_eq_true_iff.1 hc;have h2:=Bool.and_eq_true_iff.1 h1.1;Bc S h2.1 h2.2 h1.2 hmk φ R (fun _ _=>True) hst h0 (fun i o ho l u w h1 h2 hR _ hd=>hstep i o ho l u w h1 h2 hR hd) hdone
theorem Ml{a b:Bool}(h:a=false->b=false)(l:b=true):a=true:=by
 cases a with
 |true=>rfl
 |false=>rw[h rfl]at l;cases l
section
variable {P:Program}
theorem Ks(w:World)(base:Nat)(t ty e:TypeId)(i:TypeInfo)(z:Value)(size bytes:Nat)(ht:P.underlying t=some (.slice e))(hi:P.info? e=some i)(hz:i.zero=some z)
  (hsize:i.size=size) (hby:i.bytes=bytes) (hzs:z.cells.size=size) (hsz:0<size)
  (v:Value) (n:Nat) (xs:List Value) (hown:w.ownsRow base e size v n xs)
  (a:Addr) (m c:Nat) (news:List Value) (hl:news.length=m*size) (hnews:∀j u,news[j]?=some u->w.cell? (a.add j)=some u) (h1:∀u∈news,u.oneCell'=true)
  (hm:0<m) (h63:n+m<=maxLen) (hbytes:(n+m)*bytes<=140737488355328) (hbase:base<=w.heap.size):
  ∃v' w',(Builtin.append_ #[t,t] ty #[v,.slice (some a) m c]).run P w=.ok v' w'/\w'.ownsRow base e size v' (n+m) (xs++news)/\w.grownBy w' v.ownBlock /\
   (v'.ownBlock=v.ownBlock\/∃k,v'.ownBlock=some k/\w.heap.size<=k):=by
 obtain⟨v',w',hr,h2,h3,_⟩:=run_append_own (P:=P) w base t ty e i z size bytes ht hi hz hsize hby hzs hsz v n xs hown a m c news hl hnews h1 h63 hbytes hbase;refine⟨v',w',hr,h2,h3,?_⟩;subst hsize;subst hby;have h63':n+m<=9223372036854775807:=by simp only[maxLen]at h63;omega
 rcases hown.2 with⟨rfl,rfl⟩|⟨g,cap,cur,rfl,hbg,hg,hnc,hcm,hcs,htake⟩
 ·have hq:=run_append_nil (P:=P) w t ty e i z ht hi hz a m c news hl hnews hm aG (by have hb:=hbytes;simp only[am]at hb;omega);exact gJ
 by_cases hroom:n+m<=cap
 ·have hfit:n*i.size+news.length<=cur.size:=by rw[hl,hcs,<-Nat.add_mul];exact Nat.mul_le_mul_right _ hroom
  have hq:=run_append_room (P:=P) w t ty e i ht hi g n cap cur hg a m c news hl hnews h1 hroom hfit;rw[hq]at hr;injection hr with e1 _;subst e1;exact .inl rfl
 have holds:∀j u,xs[j]?=some u->w.cell? ((⟨g,0,none⟩:Addr).add j)=some u:=hown.cells (g:=g) rfl;have hq:=run_append_grow (P:=P) w t ty e i z ht hi hz ⟨g,0,none⟩ n cap xs hown.1 holds a m c news hl hnews aG aG (growslice_fits aG hbytes);exact gJ
theorem Eh(w:World){ops:Array Oper}{rest:List Oper}{o:Oper}{a:Act}{Q:Exit->Act->World->Prop}(hgd:o.guard=none)(s x:Operand)(t:TypeId)
  (ho:o.op=.call {callee:=.builtin .append,args:=#[s,x],argTypes:=#[t,t]})
  (base:Nat) (e:TypeId) (z:Value) (bytes:Nat) (ht:P.underlying t=some (.slice e)) (hinfo:(P.info? e).map (fun i=>(i.zero,i.size,i.bytes))=some (some z,1,bytes))
  (hzs:z.cells.size=1) (W:World) (u:Value) (hw:w=W.alloc (.cells #[u] e)) (hu:u.oneCell'=true) (v:Value) (n:Nat) (xs:List Value) (hs:a.eval s=v) (hx:a.eval x=.slice (W,0) 1 1)
  (hown:W.ownsRow base e 1 v n xs)
  (h63:n+1<=maxLen) (hbytes:(n+1)*bytes<=140737488355328) (hbase:base<=W.heap.size)
  (h:∀v' w',w'.ownsRow base e 1 v' (n+1) (xs++[u])->W.grownBy w' v.ownBlock->(v'.ownBlock=v.ownBlock\/∃k,v'.ownBlock=some k/\W.heap.size<=k)->wpList P ops Q rest (a.put o.dst v') w'):wpList P ops Q (o::rest) a w:=by
 subst hw;obtain⟨i0,hi,hz0,hz1,hz2⟩:=info_parts hinfo
 obtain⟨v',w',hrun,r1,r2,r3⟩:=Ks (P:=P) (W.alloc (.cells #[u] e)) base t o.type e i0 z 1 bytes ht hi hz0 hz1 hz2 hzs aJ v n xs (hown.alloc _) ⟨W.heap.size,0,none⟩ 1 1 [u] rfl (by
  intro j y hj;match j,hj with
  |0,hj=>simp at hj;subst hj;simp[Addr.add,World.cell?_alloc_new]) (by intro y hy;simp at hy;subst hy;exact hu) aJ h63 hbytes aN
 refine wpList_plain hgd fun K' hK'=>?_;unfold Oper.wp;simp[execOp,ho,resolve,invoke,builtin,hs,hx,hrun,Result.andThen];refine hK' _ _ (h v' w' r1 ?_ ?_)
 ·exact fX
 rcases r3 with r3|⟨k,r3,r4⟩
 ·exact .inl r3
 exact .inr ⟨k,r3,by simp at r4;omega⟩
end
section
variable {P:Program}
end
theorem Nv(a b:List (List UInt8)):Ag (a++b)=Ag a++Ag b:=by simp[Ag]
theorem Tryz.sizeBuilder:(prog.info? 134).map (·.size)=some 2:=aM
theorem Tryz.liesBuilder:liesAt prog prog.depth 134 (2 / prog.cellsOf 134) 0 134 1=true:=aM
theorem Tryz.cellsByte:prog.cellsOf 5=1:=aM
end Go.Proofs.YtpjijpcemejlnaaGreatDoor
namespace Go.Proofs
open Go.Shelf
def Tryz.lays160_ren:Go.Shelf.Ren:=⟨fun|160=>173|232=>198|231=>167|227=>168|234=>199|233=>169|236=>200|235=>170|228=>195|271=>215|151=>197|197=>196|120=>223|152=>214|260=>213|137=>221|119=>222|224=>208|225=>207|217=>206|266=>217|n=>n,fun|9=>9|4=>4|3=>3|5=>5|117=>216|116=>215|0=>0|124=>219|21=>21|105=>238|46=>195|119=>255|139=>258|138=>257|n=>n,fun|3=>1|4=>2|n=>n⟩
theorem Tryz.lays160:Go.Proofs.Lays.n160 Tryz.prog Tryz.lays160_ren:={
 mixed:=by kernel_rfl
 f119:=Tryz.func222.trans (congrArg some (by kernel_rfl))
 f120:=Tryz.func223.trans (congrArg some (by kernel_rfl))
 f137:=Tryz.func221.trans (congrArg some (by kernel_rfl))
 f151:=Tryz.func197.trans (congrArg some (by kernel_rfl))
 f152:=Tryz.func214.trans (congrArg some (by kernel_rfl))
 f160:=Tryz.func173.trans (congrArg some (by kernel_rfl))
 f197:=Tryz.func196.trans (congrArg some (by kernel_rfl))
 f217:=Tryz.func206.trans (congrArg some (by kernel_rfl))
 f224:=Tryz.func208.trans (congrArg some (by kernel_rfl))
 f225:=Tryz.func207.trans (congrArg some (by kernel_rfl))
 f227:=Tryz.func168.trans (congrArg some (by kernel_rfl))
 f228:=Tryz.func195.trans (congrArg some (by kernel_rfl))
 f231:=Tryz.func167.trans (congrArg some (by kernel_rfl))
 f232:=Tryz.func198.trans (congrArg some (by kernel_rfl))
 f233:=Tryz.func169.trans (congrArg some (by kernel_rfl))
 f234:=Tryz.func199.trans (congrArg some (by kernel_rfl))
 f235:=Tryz.func170.trans (congrArg some (by kernel_rfl))
 f236:=Tryz.func200.trans (congrArg some (by kernel_rfl))
 f260:=Tryz.func213.trans (congrArg some (by kernel_rfl))
 f266:=Tryz.func217.trans (congrArg some (by kernel_rfl))
 f271:=Tryz.func215.trans (congrArg some (by kernel_rfl))
 t0:=Tryz.underlying0
 a0:=Tryz.isAgg0
 z0:=Tryz.sizeOf0
 v0:=Tryz.zeroValue0
 t3:=Tryz.underlying3
 a3:=Tryz.isAgg3
 z3:=Tryz.sizeOf3
 v3:=Tryz.zeroValue3
 t4:=Tryz.underlying4
 a4:=Tryz.isAgg4
 z4:=Tryz.sizeOf4
 v4:=Tryz.zeroValue4
 t5:=Tryz.underlying5
 a5:=Tryz.isAgg5
 z5:=Tryz.sizeOf5
 v5:=Tryz.zeroValue5
 t9:=Tryz.underlying9
 a9:=Tryz.isAgg9
 z9:=Tryz.sizeOf9
 v9:=Tryz.zeroValue9
 t21:=Tryz.underlying21
 a21:=Tryz.isAgg21
 z21:=Tryz.sizeOf21
 v21:=Tryz.zeroValue21
 t46:=Tryz.underlying195
 a46:=Tryz.isAgg195
 z46:=Tryz.sizeOf195
 v46:=Tryz.zeroValue195
 t105:=Tryz.underlying238
 a105:=Tryz.isAgg238
 z105:=Tryz.sizeOf238
 v105:=Tryz.zeroValue238
 t116:=Tryz.underlying215
 a116:=Tryz.isAgg215
 z116:=Tryz.sizeOf215
 t117:=Tryz.underlying216
 a117:=Tryz.isAgg216
 z117:=Tryz.sizeOf216
 v117:=Tryz.zeroValue216
 t119:=Tryz.underlying255
 a119:=Tryz.isAgg255
 z119:=Tryz.sizeOf255
 t124:=Tryz.underlying219
 a124:=Tryz.isAgg219
 z124:=Tryz.sizeOf219
 v124:=Tryz.zeroValue219
 t138:=Tryz.underlying257
 a138:=Tryz.isAgg257
 z138:=Tryz.sizeOf257
 v138:=Tryz.zeroValue257
 t139:=Tryz.underlying258
 a139:=Tryz.isAgg258
 z139:=Tryz.sizeOf258
 v139:=Tryz.zeroValue258
 g3:=by kernel_rfl
 g4:=by kernel_rfl}
def Tryz.lays161_ren:Go.Shelf.Ren:=⟨fun|161=>137|231=>167|227=>168|233=>169|235=>170|228=>195|197=>196|151=>197|260=>213|152=>214|137=>221|119=>222|224=>208|225=>207|217=>206|266=>217|n=>n,fun|9=>9|4=>4|3=>3|5=>5|117=>216|116=>215|0=>0|124=>219|105=>238|21=>21|119=>255|46=>195|139=>258|138=>257|n=>n,fun|3=>1|4=>2|n=>n⟩
theorem Tryz.lays161:Go.Proofs.Lays.n161 Tryz.prog Tryz.lays161_ren:={
 mixed:=by kernel_rfl
 f119:=Tryz.func222.trans (congrArg some (by kernel_rfl))
 f137:=Tryz.func221.trans (congrArg some (by kernel_rfl))
 f151:=Tryz.func197.trans (congrArg some (by kernel_rfl))
 f152:=Tryz.func214.trans (congrArg some (by kernel_rfl))
 f161:=Tryz.func137.trans (congrArg some (by kernel_rfl))
 f197:=Tryz.func196.trans (congrArg some (by kernel_rfl))
 f217:=Tryz.func206.trans (congrArg some (by kernel_rfl))
 f224:=Tryz.func208.trans (congrArg some (by kernel_rfl))
 f225:=Tryz.func207.trans (congrArg some (by kernel_rfl))
 f227:=Tryz.func168.trans (congrArg some (by kernel_rfl))
 f228:=Tryz.func195.trans (congrArg some (by kernel_rfl))
 f231:=Tryz.func167.trans (congrArg some (by kernel_rfl))
 f233:=Tryz.func169.trans (congrArg some (by kernel_rfl))
 f235:=Tryz.func170.trans (congrArg some (by kernel_rfl))
 f260:=Tryz.func213.trans (congrArg some (by kernel_rfl))
 f266:=Tryz.func217.trans (congrArg some (by kernel_rfl))
 t0:=Tryz.underlying0
 a0:=Tryz.isAgg0
 z0:=Tryz.sizeOf0
 v0:=Tryz.zeroValue0
 t3:=Tryz.underlying3
 a3:=Tryz.isAgg3
 z3:=Tryz.sizeOf3
 v3:=Tryz.zeroValue3
 t4:=Tryz.underlying4
 a4:=Tryz.isAgg4
 z4:=Tryz.sizeOf4
 v4:=Tryz.zeroValue4
 t5:=Tryz.underlying5
 a5:=Tryz.isAgg5
 z5:=Tryz.sizeOf5
 v5:=Tryz.zeroValue5
 t9:=Tryz.underlying9
 a9:=Tryz.isAgg9
 z9:=Tryz.sizeOf9
 v9:=Tryz.zeroValue9
 t21:=Tryz.underlying21
 a21:=Tryz.isAgg21
 z21:=Tryz.sizeOf21
 v21:=Tryz.zeroValue21
 t46:=Tryz.underlying195
 a46:=Tryz.isAgg195
 z46:=Tryz.sizeOf195
 v46:=Tryz.zeroValue195
 t105:=Tryz.underlying238
 a105:=Tryz.isAgg238
 z105:=Tryz.sizeOf238
 v105:=Tryz.zeroValue238
 t116:=Tryz.underlying215
 a116:=Tryz.isAgg215
 z116:=Tryz.sizeOf215
 t117:=Tryz.underlying216
 a117:=Tryz.isAgg216
 z117:=Tryz.sizeOf216
 v117:=Tryz.zeroValue216
 t119:=Tryz.underlying255
 a119:=Tryz.isAgg255
 z119:=Tryz.sizeOf255
 t124:=Tryz.underlying219
 a124:=Tryz.isAgg219
 z124:=Tryz.sizeOf219
 v124:=Tryz.zeroValue219
 t138:=Tryz.underlying257
 a138:=Tryz.isAgg257
 z138:=Tryz.sizeOf257
 v138:=Tryz.zeroValue257
 t139:=Tryz.underlying258
 a139:=Tryz.isAgg258
 z139:=Tryz.sizeOf258
 v139:=Tryz.zeroValue258
 g3:=by kernel_rfl
 g4:=by kernel_rfl}
def Tryz.lays99_ren:Go.Shelf.Ren:=⟨fun|99=>138|206=>171|n=>n,fun|9=>9|4=>4|3=>3|n=>n,fun|n=>n⟩
theorem Tryz.lays99:Go.Proofs.Lays.n99 Tryz.prog Tryz.lays99_ren:={
 mixed:=by kernel_rfl
 f99:=Tryz.func138.trans (congrArg some (by kernel_rfl))
 f206:=Tryz.func171.trans (congrArg some (by kernel_rfl))
 t3:=Tryz.underlying3
 a3:=Tryz.isAgg3
 z3:=Tryz.sizeOf3
 v3:=Tryz.zeroValue3
 t4:=Tryz.underlying4
 a4:=Tryz.isAgg4
 z4:=Tryz.sizeOf4
 v4:=Tryz.zeroValue4
 t9:=Tryz.underlying9
 a9:=Tryz.isAgg9
 z9:=Tryz.sizeOf9
 v9:=Tryz.zeroValue9}
def Tryz.lays100_ren:Go.Shelf.Ren:=⟨fun|100=>139|207=>172|n=>n,fun|9=>9|4=>4|3=>3|n=>n,fun|n=>n⟩
theorem Tryz.lays100:Go.Proofs.Lays.n100 Tryz.prog Tryz.lays100_ren:={
 mixed:=by kernel_rfl
 f100:=Tryz.func139.trans (congrArg some (by kernel_rfl))
 f207:=Tryz.func172.trans (congrArg some (by kernel_rfl))
 t3:=Tryz.underlying3
 a3:=Tryz.isAgg3
 z3:=Tryz.sizeOf3
 v3:=Tryz.zeroValue3
 t4:=Tryz.underlying4
 a4:=Tryz.isAgg4
 z4:=Tryz.sizeOf4
 v4:=Tryz.zeroValue4
 t9:=Tryz.underlying9
 a9:=Tryz.isAgg9
 z9:=Tryz.sizeOf9
 v9:=Tryz.zeroValue9}
def Tryz.lays143_ren:Go.Shelf.Ren:=⟨fun|143=>192|219=>191|217=>206|225=>207|224=>208|267=>209|266=>217|314=>218|n=>n,fun|9=>9|3=>3|4=>4|5=>5|46=>195|146=>253|51=>231|n=>n,fun|1=>0|n=>n⟩
theorem Tryz.lays143:Go.Proofs.Lays.n143 Tryz.prog Tryz.lays143_ren:={
 mixed:=by kernel_rfl
 f143:=Tryz.func192.trans (congrArg some (by kernel_rfl))
 f217:=Tryz.func206.trans (congrArg some (by kernel_rfl))
 f219:=Tryz.func191.trans (congrArg some (by kernel_rfl))
 f224:=Tryz.func208.trans (congrArg some (by kernel_rfl))
 f225:=Tryz.func207.trans (congrArg some (by kernel_rfl))
 f266:=Tryz.func217.trans (congrArg some (by kernel_rfl))
 f267:=Tryz.func209.trans (congrArg some (by kernel_rfl))
 f314:=Tryz.func218.trans (congrArg some (by kernel_rfl))
 t3:=Tryz.underlying3
 a3:=Tryz.isAgg3
 z3:=Tryz.sizeOf3
 v3:=Tryz.zeroValue3
 t4:=Tryz.underlying4
 a4:=Tryz.isAgg4
 z4:=Tryz.sizeOf4
 v4:=Tryz.zeroValue4
 t5:=Tryz.underlying5
 a5:=Tryz.isAgg5
 z5:=Tryz.sizeOf5
 v5:=Tryz.zeroValue5
 t9:=Tryz.underlying9
 a9:=Tryz.isAgg9
 z9:=Tryz.sizeOf9
 v9:=Tryz.zeroValue9
 t46:=Tryz.underlying195
 a46:=Tryz.isAgg195
 z46:=Tryz.sizeOf195
 v46:=Tryz.zeroValue195
 t51:=Tryz.underlying231
 a51:=Tryz.isAgg231
 z51:=Tryz.sizeOf231
 v51:=Tryz.zeroValue231
 t146:=Tryz.underlying253
 a146:=Tryz.isAgg253
 z146:=Tryz.sizeOf253
 v146:=Tryz.zeroValue253
 g1:=by kernel_rfl}
def Tryz.lays144_ren:Go.Shelf.Ren:=⟨fun|144=>164|143=>192|219=>191|217=>206|225=>207|224=>208|267=>209|266=>217|314=>218|n=>n,fun|9=>9|4=>4|3=>3|5=>5|46=>195|146=>253|51=>231|n=>n,fun|1=>0|n=>n⟩
theorem Tryz.lays144:Go.Proofs.Lays.n144 Tryz.prog Tryz.lays144_ren:={
 mixed:=by kernel_rfl
 f143:=Tryz.func192.trans (congrArg some (by kernel_rfl))
 f144:=Tryz.func164.trans (congrArg some (by kernel_rfl))
 f217:=Tryz.func206.trans (congrArg some (by kernel_rfl))
 f219:=Tryz.func191.trans (congrArg some (by kernel_rfl))
 f224:=Tryz.func208.trans (congrArg some (by kernel_rfl))
 f225:=Tryz.func207.trans (congrArg some (by kernel_rfl))
 f266:=Tryz.func217.trans (congrArg some (by kernel_rfl))
 f267:=Tryz.func209.trans (congrArg some (by kernel_rfl))
 f314:=Tryz.func218.trans (congrArg some (by kernel_rfl))
 t3:=Tryz.underlying3
 a3:=Tryz.isAgg3
 z3:=Tryz.sizeOf3
 v3:=Tryz.zeroValue3
 t4:=Tryz.underlying4
 a4:=Tryz.isAgg4
 z4:=Tryz.sizeOf4
 v4:=Tryz.zeroValue4
 t5:=Tryz.underlying5
 a5:=Tryz.isAgg5
 z5:=Tryz.sizeOf5
 v5:=Tryz.zeroValue5
 t9:=Tryz.underlying9
 a9:=Tryz.isAgg9
 z9:=Tryz.sizeOf9
 v9:=Tryz.zeroValue9
 t46:=Tryz.underlying195
 a46:=Tryz.isAgg195
 z46:=Tryz.sizeOf195
 v46:=Tryz.zeroValue195
 t51:=Tryz.underlying231
 a51:=Tryz.isAgg231
 z51:=Tryz.sizeOf231
 v51:=Tryz.zeroValue231
 t146:=Tryz.underlying253
 a146:=Tryz.isAgg253
 z146:=Tryz.sizeOf253
 v146:=Tryz.zeroValue253
 g1:=by kernel_rfl}
def Tryz.lays138_ren:Go.Shelf.Ren:=⟨fun|138=>211|195=>219|218=>220|143=>192|219=>191|217=>206|225=>207|224=>208|267=>209|266=>217|314=>218|n=>n,fun|9=>9|3=>3|4=>4|5=>5|0=>0|46=>195|146=>253|51=>231|n=>n,fun|1=>0|n=>n⟩
theorem Tryz.lays138:Go.Proofs.Lays.n138 Tryz.prog Tryz.lays138_ren:={
 mixed:=by kernel_rfl
 f138:=Tryz.func211.trans (congrArg some (by kernel_rfl))
 f143:=Tryz.func192.trans (congrArg some (by kernel_rfl))
 f195:=Tryz.func219.trans (congrArg some (by kernel_rfl))
 f217:=Tryz.func206.trans (congrArg some (by kernel_rfl))
 f218:=Tryz.func220.trans (congrArg some (by kernel_rfl))
 f219:=Tryz.func191.trans (congrArg some (by kernel_rfl))
 f224:=Tryz.func208.trans (congrArg some (by kernel_rfl))
 f225:=Tryz.func207.trans (congrArg some (by kernel_rfl))
 f266:=Tryz.func217.trans (congrArg some (by kernel_rfl))
 f267:=Tryz.func209.trans (congrArg some (by kernel_rfl))
 f314:=Tryz.func218.trans (congrArg some (by kernel_rfl))
 t0:=Tryz.underlying0
 a0:=Tryz.isAgg0
 z0:=Tryz.sizeOf0
 v0:=Tryz.zeroValue0
 t3:=Tryz.underlying3
 a3:=Tryz.isAgg3
 z3:=Tryz.sizeOf3
 v3:=Tryz.zeroValue3
 t4:=Tryz.underlying4
 a4:=Tryz.isAgg4
 z4:=Tryz.sizeOf4
 v4:=Tryz.zeroValue4
 t5:=Tryz.underlying5
 a5:=Tryz.isAgg5
 z5:=Tryz.sizeOf5
 v5:=Tryz.zeroValue5
 t9:=Tryz.underlying9
 a9:=Tryz.isAgg9
 z9:=Tryz.sizeOf9
 v9:=Tryz.zeroValue9
 t46:=Tryz.underlying195
 a46:=Tryz.isAgg195
 z46:=Tryz.sizeOf195
 v46:=Tryz.zeroValue195
 t51:=Tryz.underlying231
 a51:=Tryz.isAgg231
 z51:=Tryz.sizeOf231
 v51:=Tryz.zeroValue231
 t146:=Tryz.underlying253
 a146:=Tryz.isAgg253
 z146:=Tryz.sizeOf253
 v146:=Tryz.zeroValue253
 g1:=by kernel_rfl}
def Tryz.lays219_ren:Go.Shelf.Ren:=⟨fun|219=>191|217=>206|225=>207|224=>208|267=>209|266=>217|314=>218|n=>n,fun|9=>9|3=>3|4=>4|5=>5|46=>195|146=>253|51=>231|n=>n,fun|1=>0|n=>n⟩
theorem Tryz.lays219:Go.Proofs.Lays.n219 Tryz.prog Tryz.lays219_ren:={
 mixed:=by kernel_rfl
 f217:=Tryz.func206.trans (congrArg some (by kernel_rfl))
 f219:=Tryz.func191.trans (congrArg some (by kernel_rfl))
 f224:=Tryz.func208.trans (congrArg some (by kernel_rfl))
 f225:=Tryz.func207.trans (congrArg some (by kernel_rfl))
 f266:=Tryz.func217.trans (congrArg some (by kernel_rfl))
 f267:=Tryz.func209.trans (congrArg some (by kernel_rfl))
 f314:=Tryz.func218.trans (congrArg some (by kernel_rfl))
 t3:=Tryz.underlying3
 a3:=Tryz.isAgg3
 z3:=Tryz.sizeOf3
 v3:=Tryz.zeroValue3
 t4:=Tryz.underlying4
 a4:=Tryz.isAgg4
 z4:=Tryz.sizeOf4
 v4:=Tryz.zeroValue4
 t5:=Tryz.underlying5
 a5:=Tryz.isAgg5
 z5:=Tryz.sizeOf5
 v5:=Tryz.zeroValue5
 t9:=Tryz.underlying9
 a9:=Tryz.isAgg9
 z9:=Tryz.sizeOf9
 v9:=Tryz.zeroValue9
 t46:=Tryz.underlying195
 a46:=Tryz.isAgg195
 z46:=Tryz.sizeOf195
 v46:=Tryz.zeroValue195
 t51:=Tryz.underlying231
 a51:=Tryz.isAgg231
 z51:=Tryz.sizeOf231
 v51:=Tryz.zeroValue231
 t146:=Tryz.underlying253
 a146:=Tryz.isAgg253
 z146:=Tryz.sizeOf253
 v146:=Tryz.zeroValue253
 g1:=by kernel_rfl}
def Tryz.lays156_ren:Go.Shelf.Ren:=⟨fun|156=>45|165=>82|166=>83|169=>84|240=>126|241=>127|276=>160|277=>161|n=>n,fun|31=>31|9=>9|3=>3|4=>4|0=>0|20=>20|72=>134|76=>138|70=>132|37=>22|75=>137|127=>180|164=>206|5=>5|80=>50|n=>n,fun|n=>n⟩
theorem Tryz.lays156:Go.Proofs.Lays.n156 Tryz.prog Tryz.lays156_ren:={
 mixed:=by kernel_rfl
 f156:=Tryz.func45.trans (congrArg some (by kernel_rfl))
 f165:=Tryz.func82.trans (congrArg some (by kernel_rfl))
 f166:=Tryz.func83.trans (congrArg some (by kernel_rfl))
 f169:=Tryz.func84.trans (congrArg some (by kernel_rfl))
 f240:=Tryz.func126.trans (congrArg some (by kernel_rfl))
 f241:=Tryz.func127.trans (congrArg some (by kernel_rfl))
 f276:=Tryz.func160.trans (congrArg some (by kernel_rfl))
 f277:=Tryz.func161.trans (congrArg some (by kernel_rfl))
 t0:=Tryz.underlying0
 a0:=Tryz.isAgg0
 z0:=Tryz.sizeOf0
 v0:=Tryz.zeroValue0
 t3:=Tryz.underlying3
 a3:=Tryz.isAgg3
 z3:=Tryz.sizeOf3
 v3:=Tryz.zeroValue3
 t4:=Tryz.underlying4
 a4:=Tryz.isAgg4
 z4:=Tryz.sizeOf4
 v4:=Tryz.zeroValue4
 t9:=Tryz.underlying9
 a9:=Tryz.isAgg9
 z9:=Tryz.sizeOf9
 v9:=Tryz.zeroValue9
 t20:=Tryz.underlying20
 a20:=Tryz.isAgg20
 z20:=Tryz.sizeOf20
 v20:=Tryz.zeroValue20
 t31:=Tryz.underlying31
 a31:=Tryz.isAgg31
 z31:=Tryz.sizeOf31
 v31:=Tryz.zeroValue31
 t37:=Tryz.underlying22
 a37:=Tryz.isAgg22
 z37:=Tryz.sizeOf22
 v37:=Tryz.zeroValue22
 t70:=Tryz.underlying132
 a70:=Tryz.isAgg132
 z70:=Tryz.sizeOf132
 v70:=Tryz.zeroValue132
 t72:=Tryz.underlying134
 a72:=Tryz.isAgg134
 z72:=Tryz.sizeOf134
 v72:=Tryz.zeroValue134
 t75:=Tryz.underlying137
 a75:=Tryz.isAgg137
 z75:=Tryz.sizeOf137
 v75:=Tryz.zeroValue137
 t76:=Tryz.underlying138
 a76:=Tryz.isAgg138
 z76:=Tryz.sizeOf138
 v76:=Tryz.zeroValue138
 t127:=Tryz.underlying180
 a127:=Tryz.isAgg180
 z127:=Tryz.sizeOf180
 v127:=Tryz.zeroValue180
 t164:=Tryz.underlying206
 a164:=Tryz.isAgg206
 z164:=Tryz.sizeOf206
 v164:=Tryz.zeroValue206}
end Go.Proofs
namespace Go.Proofs.YtpjijpcemejlnaaGreatDoor
open Go.RowKit Go.Proofs.Tryz
section
variable {P:Program}
theorem Pp(W:World){o:Oper}{a:Act}{K:Act->World->Prop}{Q:Exit->Act->World->Prop}(s x:Operand)(t:TypeId)
  (ho:o.op=.call {callee:=.builtin .append,args:=#[s,x],argTypes:=#[t,t]})
  (base:Nat) (e:TypeId) (z:Value) (k bytes:Nat) (ht:P.underlying t=some (.slice e)) (hinfo:(P.info? e).map (fun i=>(i.zero,i.size,i.bytes))=some (some z,k,bytes))
  (hzs:z.cells.size=k) (hk:0<k) (us:List Value) (hul:us.length=k) (hu:∀u∈us,u.oneCell'=true) (v:Value) (n:Nat) (xs:List Value) (hs:a.eval s=v) (hx:a.eval x=.slice (W,0) 1 1)
  (hown:W.ownsRow base e k v n xs) (h63:n+1<=maxLen) (hbytes:(n+1)*bytes<=140737488355328) (hbase:base<=W.heap.size)
  (h:∀v' w',w'.ownsRow base e k v' (n+1) (xs++us)->W.grownBy w' v.ownBlock->(v'.ownBlock=v.ownBlock\/∃k,v'.ownBlock=some k/\W.heap.size<=k)->K (a.put o.dst v') w'):Oper.wp P o a (W.alloc (.cells us.toArray e)) K Q:=by
 obtain⟨i0,hi,hz0,hz1,hz2⟩:=info_parts hinfo
 obtain⟨v',w',hrun,r1,r2,r3⟩:=Ks (P:=P) (W.alloc (.cells us.toArray e)) base t o.type e i0 z k bytes ht hi hz0 hz1 hz2 hzs hk v n xs (hown.alloc _) ⟨W.heap.size,0,none⟩ 1 1 us aG (by
  intro j y hj;have e1:(⟨W.heap.size,0,none⟩:Addr).add j=⟨W.heap.size,j,none⟩:=bo;rw[e1,World.cell?_alloc_new];simpa using hj) hu aJ h63 hbytes aN
 unfold Oper.wp;simp[execOp,ho,resolve,invoke,builtin,hs,hx,hrun,Result.andThen];refine h v' w' r1 ?_ ?_
 ·exact fX
 rcases r3 with r3|⟨k,r3,r4⟩
 ·exact .inl r3
 exact .inr ⟨k,r3,by simp at r4;omega⟩
theorem Xh(W:World){ops:Array Oper}{rest:List Oper}{o:Oper}{a:Act}{Q:Exit->Act->World->Prop}(hgd:o.guard=none)(s x:Operand)(t:TypeId)
  (ho:o.op=.call {callee:=.builtin .append,args:=#[s,x],argTypes:=#[t,t]})
  (base:Nat) (e:TypeId) (z:Value) (k bytes:Nat) (ht:P.underlying t=some (.slice e)) (hinfo:(P.info? e).map (fun i=>(i.zero,i.size,i.bytes))=some (some z,k,bytes))
  (hzs:z.cells.size=k) (hk:0<k) (us:List Value) (hul:us.length=k) (hu:∀u∈us,u.oneCell'=true) (v:Value) (n:Nat) (xs:List Value) (hs:a.eval s=v) (hx:a.eval x=.slice (W,0) 1 1)
  (hown:W.ownsRow base e k v n xs) (h63:n+1<=maxLen) (hbytes:(n+1)*bytes<=140737488355328) (hbase:base<=W.heap.size)
  (h:∀v' w',w'.ownsRow base e k v' (n+1) (xs++us)->W.grownBy w' v.ownBlock->(v'.ownBlock=v.ownBlock\/∃k,v'.ownBlock=some k/\W.heap.size<=k)->wpList P ops Q rest (a.put o.dst v') w'):wpList P ops Q (o::rest) a (W.alloc (.cells us.toArray e)):=
 wpList_plain hgd fun K' hK'=>Pp W s x t ho base e z k bytes ht hinfo hzs hk us hul hu v n xs hs hx hown h63 hbytes hbase fun v' w' h1 h2 h3=>hK' _ _ (h v' w' h1 h2 h3)
end
def Et:List (Value->Prop)->Nat->Value->Prop
 |[],_,_=>True
 |p::_,0,v=>p v
 |_::ps,n+1,v=>Et ps n v
def Qbc:List (Value->Prop)->Nat->(Nat->Value)->Prop
 |[],_,_=>True
 |p::ps,i,u=>p (u i)/\Qbc ps (i+1) u
theorem Qbk:∀(ps:List (Value->Prop)) (i:Nat) (u:Nat->Value),(∀j,j<ps.length->Et ps j (u (i+j)))->Qbc ps i u
 |[],_,_,_=>Ab
 |p::ps,i,u,h=>⟨h 0 (by simp),Qbk ps (i+1) u fun j hj=>by
  have:=h (j+1) (by simp;omega)
  rwa [show i+(j+1)=i+1+j by omega]at this⟩
theorem Yq:∀(ps qs:List (Value->Prop)) (j:Nat) (v:Value),j<ps.length->Et (ps++qs) j v=Et ps j v
 |[],_,_,_,h=>by simp at h
 |p::ps,_,0,_,_=>rfl
 |p::ps,qs,j+1,v,h=>Yq ps qs j v (by simpa using h)
theorem Yn:∀(ps:List (Value->Prop)) (p:Value->Prop) (v:Value),Et (ps++[p]) ps.length v=p v
 |[],_,_=>rfl
 |_::ps,p,v=>Yn ps p v
def Qgt(ops:Array Oper)(j i:Nat):Bool:=((ops[j]?).map fun o=>o.after.toList.any fun e=>decide (e.on=i) && Region.binds .any e).getD false
section
variable {P:Program} {ops:Array Oper} {Q:Exit->Act->World->Prop} {a:Act} {mk:(Nat->Value)->Act} {R:(Nat->Bool)->(Nat->Value)->World->Prop} {G:World->Prop}
def Jn:List Oper->List Nat
 |[]=>[]
 |o::os=>(match o.dst with|some d=>d|none=>100000+os.length)::Jn os
def St(P:Program)(ops:Array Oper)(Q:Exit->Act->World->Prop)(a:Act)(mk:(Nat->Value)->Act)(R:(Nat->Bool)->(Nat->Value)->World->Prop)(G:World->Prop)(i:Nat)(o:Oper)(ps:List (Value->Prop))(p:Value->Prop):Prop:=
 ∀(l:Nat->Bool) (u:Nat->Value) (W:World),l i=false->(∀e∈o.after,Region.binds .any e=true->l e.on=true/\Et ps e.on (u e.on))->Hid (R l u W)->G W->Hid (∀j,Qgt ops j i=true->l j=false/\u j=a.tmps.toList.getD ((Jn ops.toList).getD j 0) undef) ->
  ∀K:Act->World->Prop,(∀v w' a',p v->R (fun j=>if j=i then true else l j) (fun j=>if j=i then v else u j) w'->a'=(mk u).put o.dst v->K a' w') ->
   if Region.wanted o (yielded ops (mk u).tmps)=true then Oper.wp P o (mk u) W K Q else K ((mk u).put o.dst undef) W
def Sq(P:Program)(ops:Array Oper)(Q:Exit->Act->World->Prop)(a:Act)(mk:(Nat->Value)->Act)(R:(Nat->Bool)->(Nat->Value)->World->Prop)(G:World->Prop):List Oper->Nat->List (Value->Prop)->Prop
 |[],n,ps=>∀l u W,(∀i,i<n->l i=true)->Qbc ps 0 u->R l u W->Q .normal (mk u) W
 |o::os,i,ps=>∃p,St P ops Q a mk R G i o ps p/\Sq P ops Q a mk R G os (i+1) (ps++[p])
theorem Sq.all:∀(os:List Oper) (i:Nat) (ps:List (Value->Prop)),ps.length=i->Sq P ops Q a mk R G os i ps ->
  ∃qs:List (Value->Prop),qs.length=os.length/\(∀j o,os[j]?=some o->St P ops Q a mk R G (i+j) o ((ps++qs).take (i+j)) (Et (ps++qs) (i+j)))/\∀l u W,(∀j,j<i+os.length->l j=true)->Qbc (ps++qs) 0 u->R l u W->Q .normal (mk u) W
 |[],i,ps,hl,h=>⟨[],rfl,by simp,by simpa [Sq]using h⟩
 |o::os,i,ps,hl,⟨p,h1,h2⟩=>by
  obtain⟨qs,e,h3,h4⟩:=Sq.all os (i+1) (ps++[p]) (by simp[hl]) h2
  refine⟨p::qs,by simp[e],fun j o' ho=>?_,fun l u W hl'=>?_⟩
  ·cases j with
   |zero=>
    simp at ho
    subst ho
    have e1:(ps++p::qs).take (i+0)=ps:=by rw[Nat.add_zero,<-hl];simp
    have e2:Et (ps++p::qs) (i+0)=p:=by
     funext v
     rw[Nat.add_zero,show ps++p::qs=(ps++[p])++qs by simp,Yq _ _ _ _ (by simp;omega),<-hl,Yn]
    rw[e1,e2]
    exact h1
   |succ j=>
    simp at ho
    have:=h3 j o' ho
    rw[List.append_assoc,List.singleton_append,show i+1+j=i+(j+1)by omega]at this
    exact this
  have:=h4 l u W fun j hj=>hl' j (by simp only[List.length_cons];omega)
  rwa [List.append_assoc,List.singleton_append]at this
theorem Vm:∀(ps:List (Value->Prop)) (i j:Nat) (v:Value),j<i->Et (ps.take i) j v=Et ps j v
 |[],_,_,_,_=>by simp
 |p::ps,0,_,_,h=>absurd h (by omega)
 |p::ps,i+1,0,_,_=>rfl
 |p::ps,i+1,j+1,v,h=>Vm ps i j v (by omega)
theorem rgF{id:Nat}{w:World}(R:(Nat->Bool)->(Nat->Value)->World->Prop)(G:World->Prop)(hG:∀l u W,R l u W->G W)(h0:R (fun _=>false) (fun i=>a.tmps.toList.getD ((Jn ops.toList).getD i 0) undef) w.drew)(h:Sq P ops Q a mk R G ops.toList 0 [])
  (hc:(P.follows .mixedOrders && (List.range ops.size).all (fun i=>((ops[i]?).map fun o=>o.after.all fun e=>!Region.binds .any e || decide (e.on<i)).getD true) && Gt a.tmps.size ops.toList (Jn ops.toList))=true:=by kernel_rfl)
  (hmk:∀u,Br a (Jn ops.toList) u=mk u:=by intro u;dsimp only[Br,Jn,Bh,List.set,Nat.zero_add,Nat.reduceAdd,List.length_cons,List.length_nil]):(Code.region id ops true).wp P Q a w:=by
 have h1:=Bool.and_eq_true_iff.1 hc
 have h2:=Bool.and_eq_true_iff.1 h1.1
 obtain⟨qs,e,h3,h4⟩:=Sq.all ops.toList 0 [] rfl h
 rw[List.nil_append]at h3 h4
 have hac:=h2.2
 refine Bc (Jn ops.toList) h2.1 hac h1.2 hmk (fun i v _=>Et qs i v) R (fun _ _=>True) (fun _ _ _ _ _ h=>h) h0 ?_ ?_
 ·intro i o ho l u W hl hp hF hun hdep K hK
  simp only[Nat.zero_add]at *
  have hs:=h3 i o ho
  refine hs l u W hl (fun e he hb=>⟨(hp e he hb).1,?_⟩) hF (hG l u W hF) (fun j hj=>?_) K fun v w' a' hv hF' ha=>hK v w' a' hv Ab hF' ha
  ·have ho':ops[i]?=some o:=by simpa using ho
   have hlt:i<ops.size:=(Array.getElem?_eq_some_iff.1 ho').1
   have hh:=List.all_eq_true.1 hac i (List.mem_range.2 hlt)
   rw[ho']at hh
   have h5:=Array.all_eq_true_iff_forall_mem.1 hh e he
   have h6:e.on<i:=by simpa [hb]using h5
   rw[Vm _ _ _ _ h6]
   exact(hp e he hb).2
  unfold Qgt at hj
  cases hjo:ops[j]? with
  |none=>rw[hjo]at hj;cases hj
  |some o'=>
   rw[hjo]at hj
   simp only[Option.map_some,Option.getD_some]at hj
   obtain⟨e,he,h5⟩:=List.any_eq_true.1 hj
   rw[Bool.and_eq_true,decide_eq_true_iff]at h5
   obtain⟨rfl,h6⟩:=h5
   have:=hdep j o' hjo e (by simpa using he) h6 hl
   exact⟨this,hun j this⟩
 intro l u W hl hφ hF
 exact h4 l u W (fun j hj=>hl j (by rw[<-Array.length_toList];omega)) (Qbk _ _ _ fun j hj=>by rw[Nat.zero_add];exact hφ j (by rw[<-Array.length_toList];omega)) hF
def Qf2(w W:World):Prop:=∀b o k,b<w.heap.size->W.cell? ⟨b,o,k⟩=w.cell? ⟨b,o,k⟩
section
variable {o:Oper} {os:List Oper} {i:Nat} {ps:List (Value->Prop)} {v:Value}
theorem sq(k:Sq P ops Q a mk R G os (i+1) (ps++[fun x=>x=v]))(h:St P ops Q a mk R G i o ps (fun x=>x=v):=by
  intro l u W hl hp hF hG hi K hK
  first|unfold Qf2 at hG|skip
  first|(simp[Region.binds,Et]at hp;done)|simp[Region.binds,Et]at hp|clear hp
  go_simp
  exact hK _ _ _ rfl hF.o (by first|rfl|(simp[Act.put,hp];done)|(simp[Act.put,hp];exact rfl))):Sq P ops Q a mk R G (o::os) i ps:=⟨_,h,k⟩
theorem Py(p:Value->Prop)(h:St P ops Q a mk R G i o ps p)(k:Sq P ops Q a mk R G os (i+1) (ps++[p])):Sq P ops Q a mk R G (o::os) i ps:=⟨_,h,k⟩
theorem dn{b:Act}(h:∀l u W,(∀j,j<i->l j=true)->Qbc ps 0 u->Hid (R l u W)->Q .normal b W)(e:∀u,Qbc ps 0 u->mk u=b:=by
  intro u h
  simp only[Qbc,List.nil_append,List.cons_append,Nat.zero_add,Nat.reduceAdd]at h
  simp only[h]
  exact rfl):Sq P ops Q a mk R G [] i ps:=fun l u W hl hu hF=>by rw[e u hu];exact h l u W hl hu hF
end
end
theorem Bf.ownK{w:World}{base k:Nat}{e:TypeId}{v:Value}{n:Nat}{xs:List Value}(h:w.ownsRow base e k v n xs)(hle:n*k<=maxLen):∃A c,v=.slice A n c/\Bf w A (n*k) xs:=by
 have h1:=h.1;rcases h.2 with⟨rfl,rfl⟩|⟨g,cap,cur,rfl,hb,hh,hnc,hcm,hcs,htk⟩
 ·exact⟨none,0,rfl,by omega,by omega,fun h=>absurd h aG⟩
 refine⟨some ⟨g,0,none⟩,cap,rfl,by omega,hle,fun hn=>⟨g,0,rfl,(h.lt g rfl).2,fun j u hu=>?_⟩⟩;have:=h.cells (g:=g) rfl j u hu;have e1:(⟨g,0,none⟩:Addr).add j=⟨g,0+j,none⟩:=bo;rwa [e1]at this
section
variable {P:Program}
theorem Yj(w:World){ops:Array Oper}{rest:List Oper}{o:Oper}{a:Act}{Q:Exit->Act->World->Prop}(hgd:o.guard=none)(s x:Operand)(t:TypeId)
  (ho:o.op=.call {callee:=.builtin .append,args:=#[s,x],argTypes:=#[t,t]})
  (base:Nat) (e:TypeId) (z:Value) (k bytes:Nat) (ht:P.underlying t=some (.slice e)) (hinfo:(P.info? e).map (fun i=>(i.zero,i.size,i.bytes))=some (some z,k,bytes))
  (hzs:z.cells.size=k) (hk:0<k) (W:World) (us:List Value) (hul:us.length=k) (hw:w=W.alloc (.cells us.toArray e)) (hu:∀u∈us,u.oneCell'=true) (v:Value) (n:Nat) (xs:List Value) (hs:a.eval s=v) (hx:a.eval x=.slice (W,0) 1 1)
  (hown:W.ownsRow base e k v n xs)
  (h63:n+1<=maxLen) (hbytes:(n+1)*bytes<=140737488355328) (hbase:base<=W.heap.size)
  (h:∀v' w',w'.ownsRow base e k v' (n+1) (xs++us)->Below base W w'->wpList P ops Q rest (a.put o.dst v') w'):wpList P ops Q (o::rest) a w:=by
 subst hw;obtain⟨i0,hi,hz0,hz1,hz2⟩:=info_parts hinfo;refine wpList_append_own _ hgd s x t ho base e i0 z k bytes ht hi hz0 hz1 hz2 hzs hk v n xs hs (hown.alloc _) ⟨W.heap.size,0,none⟩ 1 1 us hx aG ?_ hu h63 hbytes ?_ ?_
 ·exact fN
 ·exact gp
 intro v' w' h1 h2 _;exact h v' w' h1 (((Au base W).alloc hbase _).grown h2 aN (fun k hk=>(hown.lt k hk).1))
end
theorem Qgy:(prog.info? 94).map (fun i=>(i.zero,i.size,i.bytes))=some (some sf0,4,56):=aM
theorem Tryz.infoSt:(prog.info? 90).map (fun i=>(i.zero,i.size,i.bytes))=some (some (.agg #[.int .u8 0,a8,.slice none 0 0]),3,48):=aM
section
open Go.Maps (Keyed)
def M8(v:Value):Option (DataW Value × List MemPlace):=some (.held v,[])
def Dm(P:Program)(k:TypeId)(z:Value)(w:World)(b n:Nat)(F:Lit->Value):Prop:=
 ∃D:DataW Value,w.ownsMap P k M8 b n D/\Go.Maps.IsMap D/\∀l,WideAt.IsKeyLit l->D.atKey l (.held z)=.held (F l)
section
variable {P:Program} {k:TypeId} {z:Value} {w w':World} {b n:Nat} {F:Lit->Value}
theorem Dm.made(w:World)(P:Program)(k:TypeId)(z:Value):Dm P k z (w.alloc (.map #[] 0)) w 0 (fun _=>z):=
 ⟨.map [],World.ownsMap_made w P k M8,Go.Maps.isMap_empty,fun l _=>rfl⟩
theorem Dm.lt(h:Dm P k z w b n F):b<w.heap.size:=by
 obtain⟨D,h1,_⟩:=h;exact h1.lt
theorem Dm.kept{row:Option Nat}(h:Dm P k z w b n F)(hg:w.grownBy w' row)(hne:some b≠row):Dm P k z w' b n F:=by
 obtain⟨D,h1,h2⟩:=h;exact⟨D,h1.kept hg hne,h2⟩
theorem Dm.below(h:Dm P k z w b n F)(hb:Below w w w'):Dm P k z w' b n F:=
 h.kept (row:=none) ⟨hb.os,hb.tape,hb.output,hb.size,fun k hk _=>hb.block k hk⟩ aK
theorem Dm.belowAt{B:Nat}(h:Dm P k z w b n F)(hlt:b<B)(hb:Below B w w'):Dm P k z w' b n F:=by
 obtain⟨D,⟨es,clock,h1,h2,h3,h4⟩,h5⟩:=h;exact⟨D,⟨es,clock,(hb.block b hlt).trans h1,h2,h3,h4⟩,h5⟩
theorem Dm.alloc(h:Dm P k z w b n F)(o:Obj):Dm P k z (w.alloc o) b n F:=h.below ((Au _ _).alloc (Ap _) o)
theorem Dm.drew(h:Dm P k z w b n F):Dm P k z w.drew b n F:=h
theorem Dm.mono(h:Dm P k z w b n F){n':Nat}(hn:n<=n'):Dm P k z w b n' F:=by
 obtain⟨D,h1,h2⟩:=h;exact⟨D,h1.mono hn,h2⟩
theorem Dm.of_eq{G:Lit->Value}(h:Dm P k z w b n F)(e:∀l,WideAt.IsKeyLit l->F l=G l):Dm P k z w b n G:=by
 obtain⟨D,h1,h2,h3⟩:=h;exact⟨D,h1,h2,fun l hl=>by rw[h3 l hl,e l hl]⟩
theorem Dm.lookup{t e:TypeId}(h:Dm P k z w b n F)(K:Keyed P k)(ht:P.underlying t=some (.map k e))(hz:(zeroValue e).run P w=.ok z w){key:Value}{kl:Lit}(hkey:keyOf P k key=some kl):
  (Instr.lookup t (.map (some b)) key false).run P w=.ok (F kl) w:=by
 obtain⟨D,h1,h2,h3⟩:=h;obtain⟨v,ps,hrun,hv⟩:=h1.lookup K ht hz (show M8 z=some (.held z,[])from rfl) hkey;rw[h3 kl (K.key hkey)]at hv;simp only[M8,aj,aD,DataW.held.injEq]at hv;rw[hrun,hv.1]
theorem Dm.store{t e:TypeId}(h:Dm P k z w b n F)(K:Keyed P k)(ht:P.underlying t=some (.map k e))(hn:n<maxLen){key:Value}(val:Value){kl:Lit}(hkey:keyOf P k key=some kl):
  ∃w',(Instr.mapUpdate t (.map (some b)) key val).run P w=.ok () w'/\Dm P k z w' b (n+1) (fun l=>if l.sameKey kl=true then val else F l)/\w.grownBy w' (some b):=by
 obtain⟨D,h1,h2,h3⟩:=h;obtain⟨w',hrun,r1,r2⟩:=h1.update K ht hn hkey (show M8 val=some (.held val,[])from rfl);refine⟨w',hrun,⟨_,r1,h2.put _ _,fun l hl=>?_⟩,r2⟩;by_cases e:l=kl
 ·subst e;rw[Go.Maps.atKey_put_same h2 hl];simp[WideAt.sameKey_self hl]
 rw[Go.Maps.atKey_put_other e,h3 l hl];simp[show l.sameKey kl=false from Go.Maps.sameKey_ne e]
end
end
section
attribute [local go_sem] Qhy Qhh Qg3 Qfo ByteArray.mk_append_mk
theorem Ma(s cs:List UInt8)(w:World)(hcs:cs.length<4294967281)(ha:∀b∈cs,b.toNat<128):
  Calls prog 137 #[s,cs] w fun e w'=>e=.returned (.string ⟨(s.dropWhile (cs.contains ·)).toArray⟩)/\Below w w w':=
 Any.strings_TrimLeft_laid Tryz.lays161 aM ⟨s.toArray⟩ ⟨cs.toArray⟩ w hcs (fun j b h=>ha b (List.mem_of_getElem? h))
theorem J6{p:UInt8->Bool}:∀{l:List UInt8},l.dropWhile p=[]↔l.all p=true
 |[]=>aK
 |x::l=>by
  have ih:=J6 (p:=p) (l:=l);by_cases h:p x=true
  ·simp only[List.dropWhile_cons,h,if_true,List.all_cons,Bool.true_and];exact ih
  simp[h]
theorem Qcy{l cs:List UInt8}:Lib.trimS l cs=[]↔l.all (cs.contains ·)=true:=by
 unfold Lib.trimS Lib.trimLeftS Lib.trimRightS;rw[J6];have hsp:l.reverse.takeWhile (cs.contains ·)++l.reverse.dropWhile (cs.contains ·)=l.reverse:=List.takeWhile_append_dropWhile;have htk:=Gu (p:=fun x=>cs.contains x) l.reverse;constructor
 ·intro h;rw[List.all_eq_true]at h htk ⊢;intro x hx;have hx':x∈l.reverse:=List.mem_reverse.2 hx;rw[<-hsp]at hx';rcases af.1 hx' with hx'|hx'
  ·exact htk x hx'
  exact h x (List.mem_reverse.2 hx')
 intro h;rw[List.all_eq_true]at h ⊢;intro x hx;have hx':=List.mem_reverse.1 hx;exact h x (List.mem_reverse.1 (by rw[<-hsp];exact List.mem_append_right _ hx'))
theorem Zd(s cs:List UInt8)(w:World)(hs:s.length<=9223372036854775807)(hcs:cs.length<4294967281)(ha:∀b∈cs,b.toNat<128):
  Calls prog 173 #[s,cs] w fun e w'=>(∃r:List UInt8,e=.returned r/\(r=[]↔s.all (cs.contains ·)=true))/\Below w w w':=
 (Any.strings_Trim_laid Tryz.lays160 aM ⟨s.toArray⟩ ⟨cs.toArray⟩ w hs hcs (fun j b h=>ha b (List.mem_of_getElem? h))).mono fun e w' ⟨h1,h2⟩=>⟨⟨_,h1,Qcy⟩,h2⟩
theorem Xo(s p:List UInt8):Lib.hasPrefix s p=p.isPrefixOf s:=by
 unfold Lib.hasPrefix;first|rfl|simp
theorem Ns(s p:List UInt8)(w:World):
  Calls prog 138 #[s,p] w fun e w'=>e=.returned (.bool (p.isPrefixOf s))/\w=w':=
 (Any.strings_HasPrefix Tryz.lays99 ⟨s.toArray⟩ ⟨p.toArray⟩ w).mono fun e w' ⟨h1,h2⟩=>⟨by rw[h1,Xo],h2.symm⟩
theorem Nt(s p:List UInt8)(w:World)(hs:s.length<=9223372036854775807):
  Calls prog 139 #[s,p] w fun e w'=>e=.returned (.bool (Lib.hasSuffix s p))/\w=w':=
 (Any.strings_HasSuffix Tryz.lays100 ⟨s.toArray⟩ ⟨p.toArray⟩ w hs).mono fun e w' ⟨h1,h2⟩=>⟨h1,h2.symm⟩
theorem G7(s:List UInt8)(c:UInt8):(c∉s/\Lib.indexByte s c = -1)\/∃p t,s=p++c::t/\c∉p/\Lib.indexByte s c=(p.length:Int):=by
 induction s with
 |nil=>exact .inl ⟨by simp,rfl⟩
 |cons x s ih=>
  by_cases hx:x=c
  ·exact .inr ⟨[],s,by simp[hx],by simp,by simp[Lib.indexByte,hx]⟩
  have hb:(x == c)=false:=by simpa using hx
  rcases ih with⟨hn,e⟩|⟨p,t,es,hp,e⟩
  ·exact .inl ⟨by simp;exact⟨fun h=>hx h.symm,hn⟩,by simp[Lib.indexByte,hb,e]⟩
  refine .inr ⟨x::p,t,by simp[es],by simp;exact⟨fun h=>hx h.symm,hp⟩,?_⟩;have:¬(p.length:Int) = -1:=aG;simp[Lib.indexByte,hb,e,this]
theorem Qde(s:List UInt8)(c:UInt8)(w:World):
  Calls prog 192 #[s,.string ⟨#[c]⟩] w fun e w'=>e=.returned (.int .i64 (Lib.indexByte s c))/\w=w':=
 (Any.strings_Index_one Tryz.lays143 ⟨s.toArray⟩ c w).mono fun e w' ⟨h1,h2⟩=>⟨h1,h2.symm⟩
theorem Tk(s:List UInt8)(c:UInt8)(w:World):
  Calls prog 191 #[s,.string ⟨#[c]⟩] w fun e w'=>e=.returned (.int .i64 (Lib.indexByte s c))/\w=w':=
 (Any.stringslite_Index_one Tryz.lays219 ⟨s.toArray⟩ c w).mono fun e w' ⟨h1,h2⟩=>⟨h1,h2.symm⟩
theorem Qcj(s:List UInt8)(c:UInt8)(w:World):
  Calls prog 211 #[s,.string ⟨#[c]⟩] w fun e w'=>e=.returned (.int .i64 ((s.count c:Nat):Int))/\w=w':=
 (Any.strings_Count_one Tryz.lays138 ⟨s.toArray⟩ c w).mono fun e w' ⟨h1,h2⟩=>⟨h1,h2.symm⟩
theorem K0(s:List UInt8)(c:UInt8)(w:World):
  Calls prog 164 #[s,.string ⟨#[c]⟩] w fun e w'=>e=.returned (.bool (decide (c∈s)))/\w=w':=
 (Any.strings_Contains_one Tryz.lays144 ⟨s.toArray⟩ c w).mono fun e w' ⟨h1,h2⟩=>⟨by
  rw[h1];refine Dj (Ce ?_);show decide (0<=Lib.indexByte s c)=_;rw[decide_eq_decide];rcases G7 s c with⟨hn,e⟩|⟨p,t,es,hp,e⟩
  ·rw[e];exact⟨fun h=>by omega,fun h=>absurd h hn⟩
  rw[e];exact⟨fun _=>by rw[es];simp,fun _=>by omega⟩,h2.symm⟩
def Y8(r:List UInt8 × List UInt8 × Bool):Value:=.tuple #[r.1,r.2.1,.bool r.2.2]
theorem Qdw(s:List UInt8)(c:UInt8)(w:World)(hs:s.length<=4294967280):
  Calls prog 163 #[s,.string ⟨#[c]⟩] w fun e w'=>e=.returned (Y8 (Cr c s))/\∃k,w'=w.drewN k:=by
 rcases G7 s c with⟨hn,e⟩|⟨p,t,es,hp,e⟩
 ·have Hc:=Aa (Nm hn);have Hi:=Aa (fun W=>Tk s c W);rw[e]at Hi;clear hn e;go_enter func163,ntmps163;go_wp2_with fail;refine(Hi.o _).mono ?_;rintro e w' ⟨rfl,rfl⟩;go_wp2_with fail;go_ret3
  exact⟨by rw[Hc.o];rfl,0,rfl⟩
 have Hc:=Aa (show Cr c s=(p,t,true)by rw[es];exact Dt hp);have Hi:=Aa (fun W=>Tk s c W);rw[e]at Hi;have hl:s.length=p.length+1+t.length:=by rw[es];simp;omega
 have h1:s.take p.length=p:=by rw[es];simp
 have h2:s.drop (p.length+1)=t:=by
  rw[es,show p++c::t=(p++[c])++t by simp];exact List.drop_left' aK
 have k1:IntKind.i64.wrap ((p.length:Int)+1)=(p.length:Int)+1:=IntWalk.i64_in _ aG;have k2:((p.length:Int)+1).toNat=p.length+1:=aG;have k3:(0:Int)<=(p.length:Int)+1:=aG;have k4:(p.length:Int)+1<=(s.length:Int):=aG;have k5:(p.length:Int)<=(s.length:Int):=aG;have k6:(0:Int)<=(p.length:Int):=aG;have H1:=Aa h1;have H2:=Aa h2;clear e es hl h1 h2 hp;go_enter func163,ntmps163;go_wp2_with fail;refine(Hi.o _).mono ?_;rintro e w' ⟨rfl,rfl⟩;go_wp2_with fail;go_quiet (fail)
 go_wp2
 go_ret3
 exact⟨by rw[Hc.o];exact Qht (Qex H1.o) (Qex H2.o) rfl,_,rfl⟩
theorem Po(s:List UInt8)(c:UInt8)(w:World)(hs:s.length<=4294967280):
  Calls prog 134 #[s,.string ⟨#[c]⟩] w fun e w'=>e=.returned (Y8 (Cr c s))/\∃k,w'=w.drewN k:=by
 go_enter func134,ntmps134;go_wp2_with fail;refine(Qdw s c _ hs).mono ?_;rintro e w' ⟨rfl,k,rfl⟩;unfold Y8;go_wp2_with fail;go_ret3
 exact⟨rfl,k,rfl⟩
theorem Pm(c:UInt8):∀s:List UInt8,(Ae c s).length=s.count c+1
 |[]=>rfl
 |x::s=>by
  have ih:=Pm c s;simp only[Ae];by_cases h:x=c
  ·rw[if_pos h,h];simp[ih]
  rw[if_neg h];have e:List.count c (x::s)=List.count c s:=List.count_cons_of_ne h;rw[e];cases hs:Ae c s with
  |nil=>rw[hs]at ih;simp at ih
  |cons p ps=>rw[hs]at ih;simp at ih ⊢;exact ih
theorem Qdq(A B:List Value)(k:Nat)(x y:Value)(h:A.length=k):(A++x::B).set k y=A++y::B:=by
 subst h;rw[List.set_append,if_neg aG];simp
theorem Zc{w:World}{base k n g cap:Nat}{ps:List (List UInt8)}{ys:List Value}(h:w.ownsRow base 9 1 (.slice (g,0) n cap) n (Ag ps++ys))(hk:ps.length=k)(hlt:k<n)(s:List UInt8):
  ∃zs,(w.setCell ⟨g,k,none⟩ s).ownsRow base 9 1 (.slice (g,0) n cap) n (Ag (ps++[s])++zs)/\w.grownBy (w.setCell ⟨g,k,none⟩ s) (some g)/\w.frozen? ⟨g,k,none⟩=false/\∃u,w.cell? ⟨g,k,none⟩=some u:=by
 have hl:(Ag ps).length=k:=by simp[Ag,hk]
 have h1:=h.1;rw[ah,hl]at h1;obtain⟨y,zs,rfl⟩:∃y zs,ys=y::zs:=by
  cases ys with
  |nil=>simp at h1;omega
  |cons y zs=>exact⟨y,zs,rfl⟩
 have hst:=h.stored k s;rw[Qdq _ _ _ _ _ hl]at hst;have hc:=h.cellAt k aG;rw[List.getElem?_append_right aG,hl]at hc;simp at hc;exact⟨zs,by rw[M2,List.append_assoc];exact hst.1,hst.2,h.frozenAt k,y,hc⟩
theorem Qgk{w:World}{base k n g cap:Nat}{ps:List (List UInt8)}{ys:List Value}(h:w.ownsRow base 9 1 (.slice (g,0) n cap) n (Ag ps++ys))(hk:ps.length=k)(hle:k<=n):
  w.ownsRow base 9 1 (.slice (g,0) k cap) k (Ag ps):=by
 rcases h.2 with⟨e,_⟩|⟨g',cap',cur,e,hb,hh,hnc,hcm,hcs,htk⟩
 ·cases e
 injection e with e1 e2 e3;injection e1 with e1;injection e1 with e1;subst e1;subst e3;refine⟨by simp[Ag,hk],.inr ⟨g,cap,cur,rfl,hb,hh,by omega,hcm,hcs,?_⟩⟩;have hl:(Ag ps).length=k:=by simp[Ag,hk]
 have:(cur.toList.take (n*1)).take (k*1)=(Ag ps++ys).take (k*1):=by rw[htk]
 rw[List.take_take,Nat.min_eq_left aG]at this;rw[this,List.take_append_of_le_length aG,ar aG]
theorem Xw(s:List UInt8)(c:UInt8)(w:World)(hs:s.length<=4000000):
  Calls prog 193 #[s,.string ⟨#[c]⟩,.int .i64 0,.int .i64 (-1)] w fun e w'=>
   ∃v,e=.returned v/\w'.ownsRow w 9 1 v (Ae c s).length (Ag (Ae c s))/\Below w w w':=by
 obtain⟨i0,hi,hz0,hz1,hz2⟩:=info_parts Gd;have hcnt:s.count c<=s.length:=List.count_le_length;have Hn:=Aa (Pm c s);have H0:=@Aa (Ae c s=[]++Ae c s) rfl;go_enter func193,ntmps193;go_wp2_with fail;refine(Qcj s c w).mono ?_;rintro e w' ⟨rfl,rfl⟩;obtain⟨n,hn⟩:∃n,n=s.count c:=⟨_,rfl⟩
 have HN:=Aa hn;rw[<-hn]at hcnt ⊢;clear hn;have hmin:min ((n:Int)+1) ((s.length:Int)+1)=(n:Int)+1:=aG;go_wp2_with (at_make;refine wpList_make_full _ rfl _ _ 31 rfl w 9 i0 a8 1 underlying31 hi hz0 hz1 .i64 .i64 _ _ (n+1) rfl rfl aG aG (by rw[hz2];omega) bj (Ap _) ?_;intro w0 hown0 hgrow0)
 go_loopw [0,10] (fun x i wr=>∃(ps:List (List UInt8)) (r:List UInt8) (k:Nat),i=.int .i64 k/\k<=n/\x=r/\r.length<=s.length/\ps.length=k/\Hid (Ae c s=ps++Ae c r)/\Hid (r.count c+k=n) /\
   Hid (∃ys,wr.ownsRow w 9 1 (.slice (w,0) (n+1) (n+1)) (n+1) (Ag ps++ys))/\Hid (Below w w wr)) (fun _ i _=>n - (intOf i).toNat)
 case atStart=>exact⟨[],s,0,rfl,ag _,rfl,Ap _,rfl,H0.o,by show _=_;have:=HN.o;omega,⟨_,hown0⟩,(Au _ _).grown hgrow0 (Ap _) aK⟩
 case round=>
  obtain⟨ps,r,k,rfl,hk,rfl,hr,hps,hsp,hct,hown,hb⟩:=hrel;have Hps:=Aa hps;clear hps;by_cases hlt:k<n
  ·have hmem:c∈r:=by
    have:=hct.o;exact List.count_pos_iff.1 aG
   have hix:∃p t,r=p++c::t/\c∉p/\Lib.indexByte r c=(p.length:Int):=by
    rcases G7 r c with⟨h,_⟩|h
    ·exact absurd hmem h
    exact h
   obtain⟨p,t,er,hp,e⟩:=hix;have Hi:=Aa (fun W=>Qde r c W);rw[e]at Hi;have hl:r.length=p.length+1+t.length:=by rw[er];simp;omega
   have H1:=Aa (show r.take p.length=p by rw[er];simp)
   have H2:=Aa (show r.drop (p.length+1)=t by
    rw[er,show p++c::t=(p++[c])++t by simp];exact List.drop_left' aK)
   have Hsp:=Aa (show Ae c s=(ps++[p])++Ae c t by rw[hsp.o,er,Jp c p t hp];simp)
   have Hct:=Aa (show t.count c+(k+1)=n by
    have h0:=hct.o;have h1:p.count c=0:=List.count_eq_zero.2 hp;rw[er,List.count_append,h1,List.count_cons_self]at h0;omega)
   obtain⟨ys,hown'⟩:=hown.o;obtain⟨zs,n1,n2,n3,u,n4⟩:=Zc hown' Hps.o (by omega:k<n+1) p;have N1:=Aa (show (wr.setCell ⟨w.heap.size,k,none⟩ (.string ⟨(r.take p.length).toArray⟩)).ownsRow w 9 1 (.slice (w,0) (n+1) (n+1)) (n+1) (Ag (ps++[p])++zs)by rw[H1.o];exact n1);have N2:=@Aa (Below w w (wr.setCell ⟨w.heap.size,k,none⟩ (.string ⟨(r.take p.length).toArray⟩))) (hb.o.setCell (p:=⟨w.heap.size,k,none⟩) (Ap _) _);have k1:(0:Int)<=(p.length:Int):=aG;have k2:(p.length:Int)<=(r.length:Int):=aG;have k3:p.length+1<=r.length:=aG;clear e er hp hmem hown' n1 n2 hl;go_wp2_with fail;refine(Hi.o _).mono ?_;rintro e w' ⟨rfl,rfl⟩;go_wp2_with fail;go_roundw
   case rel=>exact⟨ps++[p],t,k+1,by go_num,by omega,Qex H2.o,by have:=congrArg List.length H2.o;simp at this;omega,by rw[ah,Hps.o];rfl,Hsp.o,Hct.o,⟨zs,N1.o⟩,N2.o⟩
   case measure=>simp[intOf];omega
  ·obtain rfl:k=n:=aG;have hno:c∉r:=by
    have:=hct.o;exact List.count_eq_zero.1 aG
   have Hsp:=Aa (show Ae c s=ps++[r]by rw[hsp.o,Ff c r hno]);obtain⟨ys,hown'⟩:=hown.o;obtain⟨zs,n1,n2,n3,u,n4⟩:=Zc hown' Hps.o (by omega:k<k+1) r;have N1:=Aa (Qgk n1 (by rw[ah,Hps.o];rfl) (Ap _));have N2:=@Aa (Below w w (wr.setCell ⟨w.heap.size,k,none⟩ r)) (hb.o.setCell (p:=⟨w.heap.size,k,none⟩) (Ap _) _);clear hown' n1 n2 hno;go_wp2_with fail;go_ret;refine⟨_,rfl,?_,N2.o⟩;have e1:(Ae c s).length=k+1:=by rw[Hsp.o,ah,Hps.o];rfl
   rw[e1,Hsp.o];exact N1.o
theorem Qe(s:List UInt8)(c:UInt8)(w:World)(hs:s.length<=4000000):
  Calls prog 165 #[s,.string ⟨#[c]⟩] w fun e w'=>
   ∃v,e=.returned v/\w'.ownsRow w 9 1 v (Ae c s).length (Ag (Ae c s))/\Below w w w':=by
 go_enter func165,ntmps165;go_wp2_with fail;refine(Xw s c _ hs).mono ?_;rintro e w' ⟨v,rfl,ho,hb⟩;have Ho:=Aa ho;have Hb:=Aa hb;clear ho hb;go_wp2_with fail;go_ret;exact⟨_,rfl,Ho.o,Hb.o⟩
def Qfu:List UInt8:=[97,98,99,100,101,102,103,104,105,106,107,108,109,110,111,112,113,114,115,116,117,118,119,120,121,122]
def Z5:List UInt8:=[97,98,99,100,101,102,103,104,105,106,107,108,109,110,111,112,113,114,115,116,117,118,119,120,121,122,48,49,50,51,52,53,54,55,56,57,32]
theorem Nj{p:UInt8->Bool}(h:∀n,n<256->p (UInt8.ofNat n)=true)(c:UInt8):p c=true:=by
 have:=h c.toNat c.toNat_lt;rwa [UInt8.ofNat_toNat]at this
theorem Qdz(c:UInt8):Qfu.contains c=Gg c:=by
 have:=Nj (p:=fun c=>Qfu.contains c == Gg c) dN c;simpa using this
theorem Zs(c:UInt8):Z5.contains c=By c:=by
 have:=Nj (p:=fun c=>Z5.contains c == By c) dN c;simpa using this
theorem Qfq(s:List UInt8):s.all (Qfu.contains ·)=s.all Gg:=by congr 1;funext c;exact Qdz c
theorem Qf3(s:List UInt8):s.all (Z5.contains ·)=s.all By:=by congr 1;funext c;exact Zs c
theorem Jd(s:List UInt8)(w:World)(hs:s.length<=9223372036854775807):
  Calls prog 140 #[s] w fun e w'=>e=.returned (.bool (At s))/\Below w w w':=by
 by_cases h1:1<=s.length
 ·by_cases h3:s.length<=3
  ·have hT:=fun W=>Zd s Qfu W hs aJ aJ;simp only[Qfq]at hT;have HT:=Aa hT;have hn:At s=s.all Gg:=by simp[At,h1,h3]
   have Hn:=Aa hn;clear hn hT;go_enter func140,ntmps140;go_wp2_with fail;refine(HT.o _).mono ?_;rintro e w' ⟨⟨r,rfl,hr⟩,hb⟩;cases r with
   |nil=>
    have Hr:=Aa (hr.1 rfl);clear hr;go_wp2_with fail;exact gK
   |cons x r=>
    have Hr:=Aa (show s.all Gg=false by
     cases h:s.all Gg with
     |false=>rfl
     |true=>exact absurd (hr.2 h) aK)
    clear hr;go_wp2_with fail;exact gK
  have Hn:=Aa (show At s=false by simp[At,h3]);go_enter func140,ntmps140;go_wp2_with fail;exact gL
 have Hn:=Aa (show At s=false by simp[At,h1]);go_enter func140,ntmps140;go_wp2_with fail;exact gL
theorem Qah(s:List UInt8)(w:World)(hs:s.length<=9223372036854775807):
  Calls prog 212 #[s] w fun e w'=>e=.returned (.bool (De s))/\Below w w w':=by
 by_cases h3:s.length<=12
 ·have hT:=fun W=>Zd s Z5 W hs aJ aJ;simp only[Qf3]at hT;have HT:=Aa hT;have hn:De s=s.all By:=by simp[De,h3]
  have Hn:=Aa hn;have t0:decide ((s.length:Int)<=12)=true:=aN;clear hn hT;go_enter func212,ntmps212;go_wp2_with fail;refine(HT.o _).mono ?_;rintro e w' ⟨⟨r,rfl,hr⟩,hb⟩;cases r with
  |nil=>
   have Hr:=Aa (hr.1 rfl);clear hr;go_wp2_with fail;exact gK
  |cons x r=>
   have Hr:=Aa (show s.all By=false by
    cases h:s.all By with
    |false=>rfl
    |true=>exact absurd (hr.2 h) aK)
   clear hr;go_wp2_with fail;exact gK
 have Hn:=Aa (show De s=false by simp[De,h3]);have t0:decide ((s.length:Int)<=12)=false:=aN;go_enter func212,ntmps212;go_wp2_with fail;exact gL
def pnV(s:List UInt8)(m:Nat):Value:=
 match Cf s with
 |none=>.tuple #[.int .i64 0,.bool false]
 |some n=>.tuple #[.int .i64 n,.bool (decide (n<=m))]
theorem Pk{s:List UInt8}{m:Nat}(h:Cf s=none):pnV s m=.tuple #[.int .i64 0,.bool false]:=by unfold pnV;rw[h]
theorem Ro{s:List UInt8}{m n:Nat}(h:Cf s=some n):pnV s m=.tuple #[.int .i64 n,.bool (decide (n<=m))]:=by unfold pnV;rw[h]
theorem Vt(s:List UInt8)(k:Nat)(hk:k<=6)(h:(s.take k).all Az=true):E0 (s.take k)<=999999:=by
 exact gM
theorem Fr(s:List UInt8)(m:Nat)(w:World)(hs:s.length<=9223372036854775807)(hm:m<=999999):
  Calls prog 175 #[s,.int .i64 m] w fun e w'=>e=.returned (pnV s m)/\w=w':=by
 rcases aF s.length 1 with h1|h1
 ·obtain rfl:s=[]:=List.eq_nil_of_length_eq_zero aG;have Hn:=Aa (Pk (m:=m) (show Cf []=none by rfl));go_enter func175,ntmps175;go_wp2_with fail;go_ret2;exact gN
 rcases aF 6 s.length with h6|h6
 ·have Hn:=Aa (Pk (m:=m) (show Cf s=none by unfold Cf;rw[if_neg];rintro⟨_,h,_⟩;omega));go_enter func175,ntmps175;go_wp2_with fail;go_ret2;exact gN
 have hc0:=(s[0]' aG).toNat_lt;have h3:(s[0]' aG=48/\1<s.length)\/((((s[0]' aG).toNat:Int) == 48)=true/\s.length<=1)\/((((s[0]' aG).toNat:Int) == 48)=false):=by
  by_cases h:s[0]' aG=48
  ·rcases aF 1 s.length with h'|h'
   ·exact .inl ⟨h,h'⟩
   exact .inr (.inl ⟨Bj h,h'⟩)
  exact .inr (.inr (Ak h))
 have hhd:(s.head?≠some 48\/s.length=1)\/(s[0]' aG=48/\1<s.length):=by
  rcases h3 with h|⟨_,h⟩|h
  ·exact .inr h
  ·exact .inl (.inr aG)
  refine .inl (.inl ?_);rw[List.head?_eq_getElem?,List.getElem?_eq_getElem aG];intro e;injection e with e;rw[e]at h;exact absurd h aJ
 have Hhd:=Aa hhd;clear hhd;rcases h3 with⟨hz,hl⟩|⟨t0,hl⟩|t0
 ·have Hn:=Aa (Pk (m:=m) (show Cf s=none by
   unfold Cf;rw[if_neg];rintro⟨_,_,_,h|h⟩
   ·apply h;rw[List.head?_eq_getElem?,List.getElem?_eq_getElem aG,hz]
   omega))
  have t0:(((s[0]' aG).toNat:Int) == 48)=true:=Bj hz;have Hz:=Aa hz;go_enter func175,ntmps175;go_wp2_with fail;go_ret2;exact gN
 all_goals
  have Hall:Hid (s.head?≠some 48\/s.length=1):=by
   rcases Hhd.o with h|⟨e,h⟩
   ·exact h
   exfalso
   first
    |omega
    |(rw[e]at t0;exact absurd t0 aJ)
  clear Hhd;go_enter func175,ntmps175;go_wp2_with fail;go_loop [6,28] (fun x i=>∃k:Nat,i=.int .i64 k/\k<=s.length/\Hid ((s.take k).all Az=true)/\E0 (s.take k)<=999999/\x=.int .i64 ((E0 (s.take k):Nat):Int)) (fun _ i=>s.length - (intOf i).toNat)
  case atStart=>exact⟨0,rfl,ag _,by simp[Hid],by simp[E0],by simp[E0]⟩
  case round=>
   obtain⟨k,rfl,hk,hdig,hv,rfl⟩:=hrel;by_cases hlt:k<s.length
   ·have hc:=(s[k]).toNat_lt;have Hts:=Aa (Be s k hlt);by_cases hd:Az s[k]=true
    ·have hd2:=C9.1 hd;obtain⟨d1,d2⟩:=hd2;have hdig2:(s.take (k+1)).all Az=true:=by
      rw[Hts.o,List.all_append,hdig.o];simp[hd]
     have hv2:=Vt s (k+1) aG hdig2;have Hdig2:=Aa hdig2;have Hv:=Aa (show E0 (s.take (k+1))=10*E0 (s.take k)+((s[k]).toNat - 48)by rw[Hts.o,Ja]);clear hd hdig2;go_wp2_with fail;go_round
     case rel=>exact⟨k+1,by go_num,by omega,Hdig2.o,hv2,Qas (by rw[Hv.o];omega)⟩
     case measure=>simp[intOf];omega
    have Hn:=Aa (Pk (m:=m) (show Cf s=none by
     unfold Cf;rw[if_neg];rintro⟨_,_,h,_⟩;exact hd (List.all_eq_true.1 h _ (ae hlt))))
    have h2:(s[k]).toNat<48\/(48<=(s[k]).toNat/\57<(s[k]).toNat):=by
     rcases aF (s[k]).toNat 48 with h|h
     ·exact .inl h
     rcases aF 57 (s[k]).toNat with h'|h'
     ·exact .inr ⟨h,h'⟩
     exact absurd (C9.2 ⟨h,h'⟩) hd
    clear hd;rcases h2 with h2|⟨h2,h4⟩
    ·go_wp2_with fail;go_ret2;exact gN
    go_wp2_with fail;go_ret2;exact gN
   ·have e:s.take k=s:=ar aG
    have Hn:=Aa (Ro (m:=m) (show Cf s=some (E0 (s.take k))by
     have hd:=hdig.o;rw[e]at hd ⊢;unfold Cf;rw[if_pos ⟨by omega,by omega,hd,Hall.o⟩]))
    clear e;generalize E0 (s.take k)=v at hv Hn;by_cases hvm:v<=m
    ·go_wp2_with fail;go_ret2;exact⟨by rw[Hn.o];exact Qga rfl (Ce (by simp[hvm])),rfl⟩
    go_wp2_with fail;go_ret2;exact⟨by rw[Hn.o];exact Qga rfl (Ce aN),rfl⟩
theorem M6(n:Nat)(w:World)(hn:n<10):
  Calls prog 75 #[.int .i64 n] w fun e w'=>e=.returned (.string ⟨(An n).toArray⟩)/\Below w w w':=by
 have Hfin:=Aa (Dy hn);have hcv:=fun W=>Qbh W w 1 (D1 (48+n));rw[Ej aG]at hcv;go_enter func75,ntmps75;go_wp2_with fail;exact gG
theorem Ez:∀(k n:Nat) (w:World),n<=k->n<=1000000000 ->
  Calls prog 75 #[.int .i64 n] w fun e w'=>e=.returned (.string ⟨(An n).toArray⟩)/\Below w w w':=by
 intro k;induction k with
 |zero=>intro n w hn h;exact M6 n w aG
 |succ k ih=>
  intro n w hn h;by_cases h10:n<10
  ·exact M6 n w h10
  have Hfin:=Aa (Kq h10);have Hs:=Aa (Dy (show n % 10<10 by omega));have Ih:=Aa (fun W=>ih (n / 10) W aG aG);have hl:=C0 8 (n / 10) eh;have e1:((n:Int) / 10)=((n / 10:Nat):Int):=aG;have e2:((n:Int) % 10)=((n % 10:Nat):Int):=aG;have E1:=Aa e1;have E2:=Aa e2;clear ih e1 e2;go_enter func75,ntmps75;go_wp2_with fail;rw[E1.o];refine(Ih.o _).mono ?_;rintro e w1 ⟨rfl,hb1⟩;have Hb1:=Aa hb1;clear hb1;go_wp2_with fail;rw[E2.o];refine(M6 (n % 10) w1 aG).mono ?_;rintro e w2 ⟨rfl,hb2⟩;have Hb2:=Aa (Hb1.o.trans (hb2.mono Hb1.o.size));rw[Hs.o];clear hb2;go_wp2_with fail;go_ret;exact⟨by rw[Hfin.o];rfl,Hb2.o⟩
def Qgq(b:List UInt8):Prop:=b=[110]\/b=[116]\/b=[102]\/b=[64]
theorem Qdh{s:List UInt8}:Bs [110] s=(match Cf s with|some n=>decide (0<n)|none=>false):=rfl
theorem Qce{s:List UInt8}:Bs [116] s=(decide (2<s.length) && decide (s.head?=some 39) && decide (s.getLast?=some 39) && De (s.drop 1).dropLast):=rfl
theorem Qb9{s:List UInt8}:Bs [102] s=decide (s=[121,101,115]):=rfl
theorem Zz(s:List UInt8)(w:World)(hs:s.length<=4000000):
  Calls prog 194 #[.string ⟨#[110]⟩,s] w fun e w'=>e=.returned (.bool (Bs [110] s))/\Below w w w':=by
 have Hp:=Aa (fun W=>Fr s 999999 W aG aG);have Hf:=Aa (Qdh (s:=s));cases hd:Cf s with
 |none=>
  rw[hd]at Hf;have Hv:=Aa (Pk (m:=999999) hd);clear hd;go_enter func194,ntmps194;go_wp2_with fail;refine(Hp.o _).mono ?_;rintro e w' ⟨rfl,rfl⟩;rw[Hv.o];go_wp2_with fail;go_ret;exact⟨Dj (Ce Hf.o.symm),Au _ _⟩
 |some n=>
  rw[hd]at Hf;have h9:=(Bt.1 hd).1;have Hv:=Aa (Ro (m:=999999) hd);have t1:decide (n<=999999)=true:=by simp;exact h9
  clear hd;rcases aF 0 n with hn|hn;all_goals
   go_enter func194,ntmps194;go_wp2_with fail;refine(Hp.o _).mono ?_;rintro e w' ⟨rfl,rfl⟩;rw[Hv.o,t1];go_wp2_with fail;go_ret;exact⟨Dj (Ce (by rw[Hf.o];first|done|(simp;try omega))),Au _ _⟩
theorem Qav(s:List UInt8)(w:World)(hs:s.length<=4000000):
  Calls prog 194 #[.string ⟨#[102]⟩,s] w fun e w'=>e=.returned (.bool (Bs [102] s))/\Below w w w':=by
 have Hf:=Aa (Qb9 (s:=s));by_cases hy:s=[121,101,115]
 ·subst hy;go_enter func194,ntmps194;go_wp2_with fail;go_ret;exact⟨Dj (Ce (by rw[Hf.o];simp)),Au _ _⟩
 have Hy:=Aa (show decide (s=[121,101,115])=false by simpa using hy);have ty:(s == [121,101,115])=false:=by simpa using hy
 clear hy;go_enter func194,ntmps194;go_wp2_with fail;go_ret;exact⟨Dj (Ce (by rw[Hf.o,Hy.o])),Au _ _⟩
theorem Yb(s:List UInt8)(w:World):
  Calls prog 194 #[.string ⟨#[64]⟩,s] w fun e w'=>e=.returned (.bool (Bs [64] s))/\Below w w w':=by
 go_enter func194,ntmps194;go_wp2_with fail;go_ret;exact gH
theorem Qan(s:List UInt8)(w:World)(hs:s.length<=4000000):
  Calls prog 194 #[.string ⟨#[116]⟩,s] w fun e w'=>e=.returned (.bool (Bs [116] s))/\Below w w w':=by
 have hf:=Qce (s:=s);rcases aF 2 s.length with h2|h2
 ·obtain⟨c,u,d,rfl⟩:∃c u d,s=c::(u++[d]):=by
   cases s with
   |nil=>simp at h2
   |cons c t=>
    rcases Dv t with rfl|⟨u,d,rfl⟩
    ·simp at h2
    exact⟨c,u,d,rfl⟩
  have hl:(c::(u++[d])).getLast?=some d:=by
   exact gF
  have hu:((c::(u++[d])).drop 1).dropLast=u:=aK;rw[hl,hu]at hf;have t0:decide (2<(c::(u++[d])).length)=true:=dx;rw[t0]at hf;simp only[List.head?_cons,aj,Bool.true_and]at hf;have Hf:=Aa hf;have hc:=c.toNat_lt;have hd:=d.toNat_lt;have hgd:∀h,(c::(u++[d]))[u.length+1]'h=d:=by intro h;simp
  have hsl:(List.take u.length (u++[d]))=u:=aK;have hul:2<=u.length+1:=by simp at h2;omega
  have hul2:u.length<=4000000:=ew;clear hf hl hu h2 hs t0;by_cases hc39:c=39
  ·have t1:((c.toNat:Int) == 39)=true:=Bj hc39;have Hc:=Aa (show decide (c=39)=true by simpa using hc39);clear hc39;by_cases hd39:d=39
   ·have t2:((d.toNat:Int) == 39)=true:=Bj hd39;have Hd:=Aa (show decide (d=39)=true by simpa using hd39);clear hd39;go_enter func194,ntmps194;go_wp2_with fail;refine(Qah u _ aG).mono ?_;rintro e w' ⟨rfl,hb⟩;go_wp2_with fail;go_ret;exact⟨Dj (Ce (by rw[Hf.o,Hc.o,Hd.o];simp)),hb⟩
   have t2:((d.toNat:Int) == 39)=false:=Ak hd39;have Hd:=Aa (show decide (d=39)=false by simpa using hd39);clear hd39;go_enter func194,ntmps194;go_wp2_with fail;go_ret;exact⟨Dj (Ce (by rw[Hf.o,Hd.o];simp)),Au _ _⟩
  have t1:((c.toNat:Int) == 39)=false:=Ak hc39;have Hc:=Aa (show decide (c=39)=false by simpa using hc39);clear hc39;go_enter func194,ntmps194;go_wp2_with fail;go_ret;exact⟨Dj (Ce (by rw[Hf.o,Hc.o];simp)),Au _ _⟩
 have e0:decide (2<s.length)=false:=aN;have Hf:=Aa (show Bs [116] s=false by rw[hf,e0];simp);clear e0;have t0:decide (2<(s.length:Int))=false:=aN;clear hf;go_enter func194,ntmps194;go_wp2_with fail;go_ret;exact⟨Dj (Ce Hf.o.symm),Au _ _⟩
theorem Xx(b s:List UInt8)(w:World)(hb:Qgq b)(hs:s.length<=4000000):
  Calls prog 194 #[b,s] w fun e w'=>e=.returned (.bool (Bs b s))/\Below w w w':=by
 rcases hb with rfl|rfl|rfl|rfl
 ·exact Zz s w hs
 ·exact Qan s w hs
 ·exact Qav s w hs
 exact Yb s w
end
end Go.Proofs.YtpjijpcemejlnaaGreatDoor
