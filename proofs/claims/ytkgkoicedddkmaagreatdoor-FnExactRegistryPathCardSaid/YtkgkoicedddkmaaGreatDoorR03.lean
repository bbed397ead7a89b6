/- Texts joined. Conditions: as each theorem names them. -/
import Derived.Maps.OwnSet
import Derived.Maps.OwnOps
import Derived.StringKeys
import Derived.Deep.RegionWith
import Derived.Lib.Builder
import Derived.Lib.AppendStr
import Derived.Lib.UnsafeStr
import Derived.Lib.MakeNoZero
import Derived.Laws.Externs
import Derived.Laws.BitsLemmas
import Derived.RegionTactic
import Derived.Laws.AppendOwnNone
import Derived.Deep.MidRow
import Derived.Deep.AppendLies
import Derived.Laws.Append
import Derived.Test.YtkgkoicedddkmaaGreatDoorR02
set_option maxRecDepth 100000
set_option maxHeartbeats 32000000
set_option linter.unusedVariables false
set_option linter.unusedSimpArgs false
namespace Go.Proofs.YtkgkoicedddkmaaGreatDoor
open Go.RowKit Go.Proofs.Tryz
theorem B9.ownK{w:World}{base k:Nat}{e:TypeId}{v:Value}{n:Nat}{xs:List Value}(h:w.ownsRow base e k v n xs)(hle:n*k<=maxLen):∃A c,v=.slice A n c/\B9 w A (n*k) xs:=by
 have h1:=h.1;rcases h.2 with⟨rfl,rfl⟩|⟨g,cap,cur,rfl,hb,hh,hnc,hcm,hcs,htk⟩
 ·exact⟨none,0,rfl,by omega,by omega,fun h=>absurd h aH⟩
 refine⟨some ⟨g,0,none⟩,cap,rfl,by omega,hle,fun hn=>⟨g,0,rfl,(h.lt g rfl).2,fun j u hu=>?_⟩⟩;have:=h.cells (g:=g) rfl j u hu;have e1:(⟨g,0,none⟩:Addr).add j=⟨g,0+j,none⟩:=bB;rwa [e1]at this
section
variable {P:Program}
theorem Pj(w:World){ops:Array Oper}{rest:List Oper}{o:Oper}{a:Act}{Q:Exit->Act->World->Prop}(hgd:o.guard=none)(s x:Operand)(t:TypeId)
  (ho:o.op=.call {callee:=.builtin .append,args:=#[s,x],argTypes:=#[t,t]})
  (base:Nat) (e:TypeId) (z:Value) (k bytes:Nat) (ht:P.underlying t=some (.slice e)) (hinfo:(P.info? e).map (fun i=>(i.zero,i.size,i.bytes))=some (some z,k,bytes))
  (hzs:z.cells.size=k) (hk:0<k) (W:World) (us:List Value) (hul:us.length=k) (hw:w=W.alloc (.cells us.toArray e)) (hu:∀u∈us,u.oneCell'=true) (v:Value) (n:Nat) (xs:List Value) (hs:a.eval s=v) (hx:a.eval x=.slice (W,0) 1 1)
  (hown:W.ownsRow base e k v n xs)
  (h63:n+1<=maxLen) (hbytes:(n+1)*bytes<=140737488355328) (hbase:base<=W.heap.size)
  (h:∀v' w',w'.ownsRow base e k v' (n+1) (xs++us)->Below base W w'->wpList P ops Q rest (a.put o.dst v') w'):wpList P ops Q (o::rest) a w:=by
 subst hw;obtain⟨i0,hi,hz0,hz1,hz2⟩:=info_parts hinfo;refine wpList_append_own _ hgd s x t ho base e i0 z k bytes ht hi hz0 hz1 hz2 hzs hk v n xs hs (hown.alloc _) ⟨W.heap.size,0,none⟩ 1 1 us hx aH ?_ hu h63 hbytes ?_ ?_
 ·exact je
 ·exact jT
 intro v' w' h1 h2 _;exact h v' w' h1 (((Aq base W).alloc hbase _).grown h2 aM (fun k hk=>(hown.lt k hk).1))
end
theorem Qcs:(prog.info? 104).map (fun i=>(i.zero,i.size,i.bytes))=some (some sf0,4,56):=aO
theorem Tryz.infoSt:(prog.info? 100).map (fun i=>(i.zero,i.size,i.bytes))=some (some (.agg #[.int .u8 0,a8,.slice none 0 0]),3,48):=aO
section
open Go.Maps (Keyed)
def Pg(v:Value):Option (DataW Value × List MemPlace):=some (.held v,[])
def Dd(P:Program)(k:TypeId)(z:Value)(w:World)(b n:Nat)(F:Lit->Value):Prop:=
 ∃D:DataW Value,w.ownsMap P k Pg b n D/\Go.Maps.IsMap D/\∀l,WideAt.IsKeyLit l->D.atKey l (.held z)=.held (F l)
section
variable {P:Program} {k:TypeId} {z:Value} {w w':World} {b n:Nat} {F:Lit->Value}
theorem Dd.made(w:World)(P:Program)(k:TypeId)(z:Value):Dd P k z (w.alloc (.map #[] 0)) w 0 (fun _=>z):=
 ⟨.map [],World.ownsMap_made w P k Pg,Go.Maps.isMap_empty,fun l _=>rfl⟩
theorem Dd.lt(h:Dd P k z w b n F):b<w.heap.size:=by
 obtain⟨D,h1,_⟩:=h;exact h1.lt
theorem Dd.kept{row:Option Nat}(h:Dd P k z w b n F)(hg:w.grownBy w' row)(hne:some b≠row):Dd P k z w' b n F:=by
 obtain⟨D,h1,h2⟩:=h;exact⟨D,h1.kept hg hne,h2⟩
theorem Dd.below(h:Dd P k z w b n F)(hb:Below w w w'):Dd P k z w' b n F:=
 h.kept (row:=none) ⟨hb.os,hb.tape,hb.output,hb.size,fun k hk _=>hb.block k hk⟩ aL
theorem Dd.belowAt{B:Nat}(h:Dd P k z w b n F)(hlt:b<B)(hb:Below B w w'):Dd P k z w' b n F:=by
 obtain⟨D,⟨es,clock,h1,h2,h3,h4⟩,h5⟩:=h;exact⟨D,⟨es,clock,(hb.block b hlt).trans h1,h2,h3,h4⟩,h5⟩
theorem Dd.alloc(h:Dd P k z w b n F)(o:Obj):Dd P k z (w.alloc o) b n F:=h.below ((Aq _ _).alloc (Ap _) o)
theorem Dd.drew(h:Dd P k z w b n F):Dd P k z w.drew b n F:=h
theorem Dd.mono(h:Dd P k z w b n F){n':Nat}(hn:n<=n'):Dd P k z w b n' F:=by
 obtain⟨D,h1,h2⟩:=h;exact⟨D,h1.mono hn,h2⟩
theorem Dd.of_eq{G:Lit->Value}(h:Dd P k z w b n F)(e:∀l,WideAt.IsKeyLit l->F l=G l):Dd P k z w b n G:=by
 obtain⟨D,h1,h2,h3⟩:=h;exact⟨D,h1,h2,fun l hl=>by rw[h3 l hl,e l hl]⟩
theorem Dd.lookup{t e:TypeId}(h:Dd P k z w b n F)(K:Keyed P k)(ht:P.underlying t=some (.map k e))(hz:(zeroValue e).run P w=.ok z w){key:Value}{kl:Lit}(hkey:keyOf P k key=some kl):
  (Instr.lookup t (.map (some b)) key false).run P w=.ok (F kl) w:=by
 obtain⟨D,h1,h2,h3⟩:=h;obtain⟨v,ps,hrun,hv⟩:=h1.lookup K ht hz (show Pg z=some (.held z,[])from rfl) hkey;rw[h3 kl (K.key hkey)]at hv;simp only[Pg,aj,aE,DataW.held.injEq]at hv;rw[hrun,hv.1]
theorem Dd.store{t e:TypeId}(h:Dd P k z w b n F)(K:Keyed P k)(ht:P.underlying t=some (.map k e))(hn:n<maxLen){key:Value}(val:Value){kl:Lit}(hkey:keyOf P k key=some kl):
  ∃w',(Instr.mapUpdate t (.map (some b)) key val).run P w=.ok () w'/\Dd P k z w' b (n+1) (fun l=>if l.sameKey kl=true then val else F l)/\w.grownBy w' (some b):=by
 obtain⟨D,h1,h2,h3⟩:=h;obtain⟨w',hrun,r1,r2⟩:=h1.update K ht hn hkey (show Pg val=some (.held val,[])from rfl);refine⟨w',hrun,⟨_,r1,h2.put _ _,fun l hl=>?_⟩,r2⟩;by_cases e:l=kl
 ·subst e;rw[Go.Maps.atKey_put_same h2 hl];simp[WideAt.sameKey_self hl]
 rw[Go.Maps.atKey_put_other e,h3 l hl];simp[show l.sameKey kl=false from Go.Maps.sameKey_ne e]
end
abbrev Cf:=List UInt8
def Rv(S:List Ty):Nat->Kd->List Cf->List Cf
 |0,_,out=>out
 |n+1,k,out=>
  if k.base=[64]/\k.name∉out then
   (match Bp S k.name with
    |none=>out++[k.name]
    |some t=>if t.sort=69 then out++[k.name]else t.fields.foldl (fun o f=>Rv S n f.kind o) (out++[k.name]))
  else out
def E8(S:List Ty):List Cf:=S.map (·.name)
theorem Fa{S:List Ty}{n:Cf}:(Bp S n).isSome=true↔n∈E8 S:=by
 unfold Bp E8;rw[List.find?_isSome];simp
def Qbv(S:List Ty)(out:List Cf):Prop:=out.Nodup/\∀x∈out,x∈E8 S
theorem Qbv.nil(S:List Ty):Qbv S []:=⟨List.nodup_nil,by simp⟩
theorem Qdf:∀(l m:List Cf),l.Nodup->(∀x∈l,x∈m)->l.length<=m.length
 |[],m,_,_=>ag _
 |x::l,m,hn,hs=>by
  obtain⟨h1,h2⟩:=List.nodup_cons.1 hn;have hx:=hs x aL
  have ih:=Qdf l (m.erase x) h2 (fun y hy=>by
   have hne:y≠x:=by rintro rfl;exact h1 hy
   exact(List.mem_erase_of_ne hne).2 (hs y gh))
  have hl:=List.length_erase_of_mem hx;have hp:0<m.length:=List.length_pos_iff.2 (by rintro rfl;cases hx);simp;omega
theorem Qbv.len{S:List Ty}{out:List Cf}(h:Qbv S out):out.length<=S.length:=by
 have:=Qdf out (E8 S) h.1 h.2;simpa [E8]using this
theorem Qbv.snoc{S:List Ty}{out:List Cf}{x:Cf}(h:Qbv S out)(hx:x∈E8 S)(hn:x∉out):Qbv S (out++[x]):=by
 refine⟨?_,?_⟩
 ·rw[List.nodup_append];refine⟨h.1,by simp,?_⟩;intro a ha b hb;simp at hb;subst hb;rintro rfl;exact hn ha
 intro y hy;rcases af.1 hy with hy|hy
 ·exact h.2 y hy
 simp at hy;subst hy;exact hx
inductive Vl where
 |mk (what:UInt8) (text:List UInt8) (tag:Nat) (kids:List Vl)
def Vl.what:Vl->UInt8|.mk w _ _ _=>w
def Vl.text:Vl->List UInt8|.mk _ t _ _=>t
def Vl.tag:Vl->Nat|.mk _ _ g _=>g
def Vl.kids:Vl->List Vl|.mk _ _ _ k=>k
def Gs(w:UInt8)(tx:List UInt8)(tg:Nat)(ps:List (List UInt8)):List UInt8:=
 if w=116 then 39::(tx++[39])
 else if w=91 then 91::(Av 44 ps++[93])
 else if w=63 then(match ps with|[]=>[45]|_=>43::Av 44 ps)
 else if w=61 then Bb tg++61::Av 44 ps
 else if w=82 then 123::(Av 44 ps++[125])
 else if w=85 then 60::(Bb tg++61::(Av 44 ps++[62]))
 else if w=69 then 35::Bb tg
 else tx
mutual
def Bc:Vl->List UInt8
 |.mk w tx tg ks=>Gs w tx tg (Dz ks)
def Dz:List Vl->List (List UInt8)
 |[]=>[]
 |x::xs=>Bc x::Dz xs
end
theorem Q8:∀ks:List Vl,Dz ks=ks.map Bc
 |[]=>rfl
 |x::xs=>by rw[Dz,Q8 xs];rfl
mutual
def Kv:Vl->Nat
 |.mk w _ _ ks=>if w=61 then Gv ks else Gv ks+1
def Gv:List Vl->Nat
 |[]=>0
 |x::xs=>max (Kv x) (Gv xs)
end
theorem Th:∀(ks:List Vl) (d:Nat),Gv ks<=d↔∀x∈ks,Kv x<=d
 |[],d=>by simp[Gv]
 |x::xs,d=>by rw[Gv,Nat.max_le,Th xs d];simp
def Ei:List UInt8:=[121,101,115]
def My:List UInt8:=[110,111]
def De(p:Fd × Vl):Vl:=.mk 61 [] p.1.tag [p.2]
inductive Nn(S:List Ty):Nat->Kd->Vl->Prop
 |n {d:Nat} {k:Kd} {m:Nat} (hs:k.signs=[]) (hb:k.base=[110]) (h:m<=999999):Nn S (d+1) k (.mk 110 (Bb m) 0 [])
 |t {d:Nat} {k:Kd} {s:List UInt8} (hs:k.signs=[]) (hb:k.base=[116]) (h:Dl s=true):Nn S (d+1) k (.mk 116 s 0 [])
 |f {d:Nat} {k:Kd} {b:Bool} (hs:k.signs=[]) (hb:k.base=[102]):Nn S (d+1) k (.mk 102 (if b then Ei else My) 0 [])
 |lst {d:Nat} {k:Kd} {r:List UInt8} {ks:List Vl} (hs:k.signs=91::r) (hl:ks.length<=20) (h:∀x∈ks,Nn S d k.part x):Nn S (d+1) k (.mk 91 [] 0 ks)
 |non {d:Nat} {k:Kd} {r:List UInt8} (hs:k.signs=63::r):Nn S (d+1) k (.mk 63 [] 0 [])
 |som {d:Nat} {k:Kd} {r:List UInt8} {x:Vl} (hs:k.signs=63::r) (h:Nn S d k.part x):Nn S (d+1) k (.mk 63 [] 0 [x])
 |enm {d:Nat} {k:Kd} {t:Ty} {f:Fd} (hs:k.signs=[]) (hb:k.base=[64]) (ht:Bp S k.name=some t) (h9:t.sort=69) (hf:Au t.fields f.tag=some f):Nn S (d+1) k (.mk 69 [] f.tag [])
 |uni {d:Nat} {k:Kd} {t:Ty} {f:Fd} {x:Vl} (hs:k.signs=[]) (hb:k.base=[64]) (ht:Bp S k.name=some t) (h5:t.sort=85) (hf:Au t.fields f.tag=some f) (h:Nn S d f.kind x):Nn S (d+1) k (.mk 85 [] f.tag [x])
 |rcd {d:Nat} {k:Kd} {t:Ty} {fs:List (Fd × Vl)} (hs:k.signs=[]) (hb:k.base=[64]) (ht:Bp S k.name=some t) (h2:t.sort=82) (hf:∀p∈fs,Au t.fields p.1.tag=some p.1) (h:∀p∈fs,Nn S d p.1.kind p.2)
   (hn:∀p∈fs,Bc p.2≠Jp S p.1) (hp:fs.Pairwise fun p q=>p.1.tag<q.1.tag):Nn S (d+1) k (.mk 82 [] 0 (fs.map De))
theorem Qgs(p:Fd × Vl):Kv (De p)=Kv p.2:=by simp[De,Kv,Gv]
theorem Gz(S:List Ty):∀(n:Nat) (k:Kd) (v:Vl),Nn S n k v->∀d,Nn S d k v↔Kv v<=d:=by
 intro n;induction n with
 |zero=>intro k v h;cases h
 |succ n ih=>
  intro k v h d;cases d with
  |zero=>
   constructor
   ·intro h;cases h
   intro hd;cases h<;>simp[Kv]at hd
  |succ d=>
   cases h with
   |n hs hb h=>exact⟨fun _=>by simp[Kv,Gv],fun _=>.n hs hb h⟩
   |t hs hb h=>exact⟨fun _=>by simp[Kv,Gv],fun _=>.t hs hb h⟩
   |f hs hb=>exact⟨fun _=>by simp[Kv,Gv],fun _=>.f hs hb⟩
   |non hs=>exact⟨fun _=>by simp[Kv,Gv],fun _=>.non hs⟩
   |enm hs hb ht h9 hf=>exact⟨fun _=>by simp[Kv,Gv],fun _=>.enm hs hb ht h9 hf⟩
   |@lst _ _ r ks hs hl h=>
    have e:Kv (.mk 91 [] 0 ks)<=d+1↔∀x∈ks,Kv x<=d:=by rw[<-Th];simp[Kv]
    rw[e];constructor
    ·intro hv x hx;cases hv with
     |lst _ _ h2=>exact(ih _ _ (h x hx) d).1 (h2 x hx)
    intro hv;exact .lst hs hl fun x hx=>(ih _ _ (h x hx) d).2 (hv x hx)
   |@som _ _ r x hs h=>
    have e:Kv (.mk 63 [] 0 [x])<=d+1↔Kv x<=d:=by simp[Kv,Gv]
    rw[e];constructor
    ·intro hv;cases hv with
     |som _ h2=>exact(ih _ _ h d).1 h2
    intro hv;exact .som hs ((ih _ _ h d).2 hv)
   |@uni _ _ t f x hs hb ht h5 hf h=>
    have e:Kv (.mk 85 [] f.tag [x])<=d+1↔Kv x<=d:=by simp[Kv,Gv]
    rw[e];constructor
    ·intro hv;generalize hg:f.tag=g at hv;cases hv with
     |uni hs2 hb2 ht2 h52 hf2 h2=>
      rw[ht]at ht2;injection ht2 with ht2;subst ht2;rw[<-hg,hf]at hf2;injection hf2 with hf2;subst hf2;exact(ih _ _ h d).1 h2
    intro hv;exact .uni hs hb ht h5 hf ((ih _ _ h d).2 hv)
   |@rcd _ _ t fs hs hb ht h2 hf h hn hp=>
    have e:Kv (.mk 82 [] 0 (fs.map De))<=d+1↔∀p∈fs,Kv p.2<=d:=by
     have:Kv (.mk 82 [] 0 (fs.map De))=Gv (fs.map De)+1:=by simp[Kv]
     rw[this,Nat.succ_le_succ_iff,Th];constructor
     ·intro h p hp;have:=h _ (ap hp);rwa [Qgs]at this
     intro h x hx;obtain⟨p,hp,rfl⟩:=ax.1 hx;rw[Qgs];exact h p hp
    rw[e];constructor
    ·intro hv p hp;generalize hg:fs.map De=ks at hv;cases hv with
     |@rcd _ _ t2 fs2 hs2 hb2 ht2 h22 hf2 h2 hn2 hp2=>
      rw[ht]at ht2;injection ht2 with ht2;subst ht2;have hm:De p∈fs2.map De:=hg ▸ ap hp;obtain⟨q,hq,eq⟩:=ax.1 hm;have e1:q.1.tag=p.1.tag:=by injection eq
      have e2:q.2=p.2:=by injection eq with _ _ _ e4;injection e4
      have e3:q.1=p.1:=by have:=hf2 q hq;rw[e1,hf p hp]at this;injection this with this;exact this.symm
      have:=h2 q hq;rw[e2,e3]at this;exact(ih _ _ (h p hp) d).1 this
    intro hv;exact .rcd hs hb ht h2 hf (fun p hp=>(ih _ _ (h p hp) d).2 (hv p hp)) hn hp
def Qg(s:List UInt8):Option (Nat × List UInt8):=match Cn (s.takeWhile Bh)with
 |some n=>some (n,s.dropWhile Bh)
 |none=>none
def Fq(fs:List Fd)(s:List UInt8):Option (Fd × List UInt8):=match Qg s with
 |some (n,r)=>if n<=200 then(match Au fs n with|some f=>some (f,r)|none=>none)else none
 |none=>none
def Ar(c:UInt8):List UInt8->Option (List UInt8)
 |x::r=>if x=c then some r else none
 |[]=>none
def Mo(s:List UInt8):Option (List UInt8 × List UInt8):=match Ar 39 s with
 |none=>none
 |some r=>match Ar 39 (r.dropWhile Ce)with
  |none=>none
  |some q=>if (r.takeWhile Ce).length<=12 then some (r.takeWhile Ce,q)else none
def Fg:List UInt8->List UInt8->Option (List UInt8)
 |[],s=>some s
 |c::p,s=>match Ar c s with|none=>none|some r=>Fg p r
def Nz(s:List UInt8):Option (Bool × List UInt8):=match Fg Ei s with
 |some r=>some (true,r)
 |none=>match Fg My s with|some r=>some (false,r)|none=>none
def Cx(K:List UInt8->Option (Vl × List UInt8)):Nat->List UInt8->Option (List Vl × List UInt8)
 |0,_=>none
 |m+1,s=>match K s with
  |none=>none
  |some (v,r)=>match Ar 44 r with
   |some q=>(match Cx K m q with|some (vs,z)=>some (v::vs,z)|none=>none)
   |none=>match Ar 93 r with|some q=>some ([v],q)|none=>none
def S1(K:List UInt8->Option (Vl × List UInt8))(m:Nat)(s:List UInt8):Option (Vl × List UInt8):=match Ar 91 s with
 |none=>none
 |some r=>match Ar 93 r with
  |some q=>some (.mk 91 [] 0 [],q)
  |none=>match Cx K m r with|some (vs,q)=>if vs.length<=20 then some (.mk 91 [] 0 vs,q)else none|none=>none
def Qac(K:List UInt8->Option (Vl × List UInt8))(s:List UInt8):Option (Vl × List UInt8):=match Ar 45 s with
 |some q=>some (.mk 63 [] 0 [],q)
 |none=>match Ar 43 s with
  |none=>none
  |some r=>match K r with|some (v,q)=>some (.mk 63 [] 0 [v],q)|none=>none
def Cy(K:Kd->List UInt8->Option (Vl × List UInt8))(fs:List Fd)(s:List UInt8):Option ((Fd × Vl) × List UInt8):=match Fq fs s with
 |none=>none
 |some (f,r)=>match Ar 61 r with
  |none=>none
  |some q=>match K f.kind q with|some (v,z)=>some ((f,v),z)|none=>none
def Dy(S:List Ty)(K:Kd->List UInt8->Option (Vl × List UInt8))(fs:List Fd):Nat->Nat->List UInt8->Option (List (Fd × Vl) × List UInt8)
 |0,_,_=>none
 |m+1,last,s=>match Cy K fs s with
  |none=>none
  |some (p,r)=>if p.1.tag<=last\/Bc p.2=Jp S p.1 then none else match Ar 44 r with
   |some q=>(match Dy S K fs m p.1.tag q with|some (ps,z)=>some (p::ps,z)|none=>none)
   |none=>match Ar 125 r with|some q=>some ([p],q)|none=>none
def Ju(S:List Ty)(K:Kd->List UInt8->Option (Vl × List UInt8))(t:Ty)(s:List UInt8):Option (Vl × List UInt8):=
 if t.sort=69 then(match Ar 35 s with
  |none=>none
  |some r=>match Fq t.fields r with|some (f,q)=>some (.mk 69 [] f.tag [],q)|none=>none)
 else if t.sort=85 then(match Ar 60 s with
  |none=>none
  |some r=>match Cy K t.fields r with
   |none=>none
   |some (p,q)=>match Ar 62 q with|some z=>some (.mk 85 [] p.1.tag [p.2],z)|none=>none)
 else match Ar 123 s with
  |none=>none
  |some r=>match Ar 125 r with
   |some q=>some (.mk 82 [] 0 [],q)
   |none=>match Dy S K t.fields 201 0 r with|some (ps,q)=>some (.mk 82 [] 0 (ps.map De),q)|none=>none
def An(S:List Ty)(m:Nat):Nat->Kd->List UInt8->Option (Vl × List UInt8)
 |0,_,_=>none
 |d+1,k,s=>match k.signs with
  |c::_=>if c=91 then S1 (An S m d k.part) m s else Qac (An S m d k.part) s
  |[]=>
   if k.base=[110]then(match Qg s with|some (n,r)=>some (.mk 110 (Bb n) 0 [],r)|none=>none)
   else if k.base=[116]then(match Mo s with|some (x,r)=>some (.mk 116 x 0 [],r)|none=>none)
   else if k.base=[102]then(match Nz s with|some (b,r)=>some (.mk 102 (if b then Ei else My) 0 [],r)|none=>none)
   else match Bp S k.name with
    |none=>none
    |some t=>Ju S (An S m d) t s
theorem Ck{c:UInt8}{s r:List UInt8}:Ar c s=some r↔s=c::r:=by
 cases s with
 |nil=>simp[Ar]
 |cons x t=>
  by_cases h:x=c
  ·subst h;simp[Ar]
  simp[Ar,h]
theorem Bq(c:UInt8)(r:List UInt8):Ar c (c::r)=some r:=if_pos rfl
theorem Di{c x:UInt8}(h:x≠c)(r:List UInt8):Ar c (x::r)=none:=if_neg h
theorem Ft{p s r:List UInt8}:Fg p s=some r↔s=p++r:=by
 induction p generalizing s with
 |nil=>simp[Fg]
 |cons c p ih=>
  unfold Fg;cases h:Ar c s with
  |none=>
   simp only[false_iff,reduceCtorEq];intro e;subst e;rw[av,Bq]at h;cases h
  |some q=>rw[Ck]at h;subst h;simp[ih]
def Pz(r:List UInt8):Prop:=∀c t,r=c::t->Bh c=false
theorem Mv:Pz []:=by intro c t h;cases h
theorem Je{c:UInt8}(r:List UInt8)(h:Bh c=false):Pz (c::r):=by intro x t e;injection e with e;subst e;exact h
theorem Qet{a r:List UInt8}(ha:a.all Bh=true)(hr:Pz r):(a++r).takeWhile Bh=a/\(a++r).dropWhile Bh=r:=by
 cases r with
 |nil=>
  rw[List.append_nil];induction a with
  |nil=>exact⟨rfl,rfl⟩
  |cons c a ih=>
   rw[List.all_cons,aw]at ha;obtain⟨i1,i2⟩:=ih ha.2;rw[List.takeWhile_cons_of_pos ha.1,List.dropWhile_cons_of_pos ha.1,i1,i2];exact⟨rfl,rfl⟩
 |cons c t=>exact Fb ha ⟨c,t,rfl,hr c t rfl⟩
theorem Xn{s r:List UInt8}{n:Nat}(h:Qg s=some (n,r)):n<=999999/\s=Bb n++r/\Pz r:=by
 unfold Qg at h;cases hd:Cn (s.takeWhile Bh)with
 |none=>rw[hd]at h;cases h
 |some m=>
  rw[hd]at h;simp only[aj,aE]at h;obtain⟨rfl,rfl⟩:=h;obtain⟨h1,h2⟩:=Ca.1 hd;refine⟨h1,by rw[<-h2,List.takeWhile_append_dropWhile],fun c t e=>?_⟩;have:=List.head?_dropWhile_not Bh s;rw[e]at this;simpa using this
theorem Qab{n:Nat}{r:List UInt8}(h:n<=999999)(hr:Pz r):Qg (Bb n++r)=some (n,r):=by
 obtain⟨e1,e2⟩:=Qet (N8 n) hr;unfold Qg;rw[e1,e2,Ca.2 ⟨h,rfl⟩]
theorem As{fs:List Fd}{n:Nat}{f:Fd}(h:Au fs n=some f):f.tag=n/\f∈fs:=by
 unfold Au at h;have:=List.find?_some h;exact⟨by simpa using this,List.mem_of_find?_eq_some h⟩
theorem H4{fs:List Fd}{s r:List UInt8}{f:Fd}(h:Fq fs s=some (f,r)):f.tag<=200/\Au fs f.tag=some f/\s=Bb f.tag++r/\Pz r:=by
 unfold Fq at h;cases hn:Qg s with
 |none=>rw[hn]at h;cases h
 |some q=>
  obtain⟨n,z⟩:=q;rw[hn]at h;simp only at h;split at h
  ·rename_i h2;cases hf:Au fs n with
   |none=>rw[hf]at h;cases h
   |some g=>
    rw[hf]at h;simp only[aj,aE]at h;obtain⟨rfl,rfl⟩:=h;have e:=(As hf).1;obtain⟨_,e2,e3⟩:=Xn hn;rw[e];exact⟨h2,hf,e2,e3⟩
  cases h
theorem Qba{fs:List Fd}{f:Fd}{r:List UInt8}(h:f.tag<=200)(hf:Au fs f.tag=some f)(hr:Pz r):Fq fs (Bb f.tag++r)=some (f,r):=by
 unfold Fq;rw[Qab aH hr];simp[h,hf]
theorem Qar:Ce 39=false:=aK
theorem Xr{s b r:List UInt8}:Mo s=some (b,r)↔Dl b=true/\s=39::(b++39::r):=by
 unfold Mo;cases h:Ar 39 s with
 |none=>
  simp only[reduceCtorEq,false_iff,not_and];rintro _ rfl;rw[Bq]at h;cases h
 |some q=>
  rw[Ck]at h;subst h;simp only[List.cons.injEq,true_and];cases h:Ar 39 (q.dropWhile Ce)with
  |none=>
   simp only[reduceCtorEq,false_iff,not_and];rintro hb rfl;have hb2:b.all Ce=true:=by unfold Dl at hb;simp only[aw]at hb;exact hb.2
   rw[(Fb hb2 ⟨39,r,rfl,Qar⟩).2,Bq]at h;cases h
  |some z=>
   rw[Ck]at h;have eq:q=q.takeWhile Ce++39::z:=by rw[<-h,List.takeWhile_append_dropWhile]
   simp only;constructor
   ·intro h2;split at h2
    ·rename_i hl;simp only[aj,aE]at h2;obtain⟨rfl,rfl⟩:=h2;exact⟨by unfold Dl;simp only[aw];exact⟨by simpa using hl,Jk q⟩,eq⟩
    cases h2
   rintro⟨hb,rfl⟩;unfold Dl at hb;simp only[aw,decide_eq_true_eq]at hb;obtain⟨e1,e2⟩:=Fb hb.2 ⟨39,r,rfl,Qar⟩;rw[e2]at h;injection h with _ h;subst h;rw[e1,if_pos hb.1]
theorem Ts{s r:List UInt8}{b:Bool}:Nz s=some (b,r)↔s=(if b then Ei else My)++r:=by
 unfold Nz;cases h:Fg Ei s with
 |some q=>
  rw[Ft]at h;subst h;cases b<;>simp[Ei,My]
 |none=>
  simp only;cases h2:Fg My s with
  |some q=>
   rw[Ft]at h2;subst h2;cases b<;>simp[Ei,My]
  |none=>
   simp only[reduceCtorEq,false_iff];rintro rfl;cases b
   ·rw[show Fg My ((if false=true then Ei else My)++r)=some r from Ft.2 rfl]at h2;cases h2
   rw[show Fg Ei ((if true=true then Ei else My)++r)=some r from Ft.2 rfl]at h;cases h
theorem Qaq{K:List UInt8->Option (Vl × List UInt8)}{P:Vl->Prop}(hK:∀s v r,K s=some (v,r)->P v/\s=Bc v++r):∀(m:Nat) (s:List UInt8) (vs:List Vl) (r:List UInt8),
  Cx K m s=some (vs,r)->vs≠[]/\vs.length<=m/\(∀x∈vs,P x)/\s=Av 44 (vs.map Bc)++93::r:=by
 intro m;induction m with
 |zero=>intro s vs r h;cases h
 |succ m ih=>
  intro s vs r h;unfold Cx at h;cases hk:K s with
  |none=>rw[hk]at h;cases h
  |some q=>
   obtain⟨v,z⟩:=q;rw[hk]at h;simp only at h;obtain⟨hp,rfl⟩:=hK _ _ _ hk;cases hb:Ar 44 z with
   |some q=>
    rw[hb]at h;simp only at h;cases hi:Cx K m q with
    |none=>rw[hi]at h;cases h
    |some y=>
     obtain⟨us,y⟩:=y;rw[hi]at h;simp only[aj,aE]at h;obtain⟨rfl,rfl⟩:=h;obtain⟨h1,h2,h3,h4⟩:=ih _ _ _ hi;rw[Ck]at hb;subst hb;refine⟨by simp,by simp;omega,by simpa using⟨hp,h3⟩,?_⟩;rw[ay,Qdt 44 _ f9,h4];simp
   |none=>
    rw[hb]at h;simp only at h;cases hb:Ar 93 z with
    |none=>rw[hb]at h;cases h
    |some q=>
     rw[hb]at h;simp only[aj,aE]at h;obtain⟨rfl,rfl⟩:=h;rw[Ck]at hb;subst hb;exact⟨by simp,by simp,by simpa using hp,by simp[Av]⟩
theorem Sp{K:List UInt8->Option (Vl × List UInt8)}:∀(m:Nat) (vs:List Vl) (r:List UInt8),(∀x∈vs,∀r,Pz r->K (Bc x++r)=some (x,r))->vs≠[]->vs.length<=m ->
  Cx K m (Av 44 (vs.map Bc)++93::r)=some (vs,r)
 |0,vs,r,_,h,hl=>by cases vs with|nil=>exact absurd rfl h|cons=>simp at hl
 |m+1,[],r,_,h,_=>absurd rfl h
 |m+1,[x],r,hK,_,_=>by
  have e:=hK x aL (93::r) (Je _ aK);simp only[ay,List.map_nil,Av];unfold Cx;rw[e];simp only[Di (show (93:UInt8)≠44 by decide),Bq]
 |m+1,x::y::vs,r,hK,_,hl=>by
  have ih:=Sp m (y::vs) r (fun z hz=>hK z fh) aL fT;have e:=hK x aL (44::(Av 44 ((y::vs).map Bc)++93::r)) (Je _ aK);rw[ay,Qdt 44 _ aL,List.append_assoc,av];unfold Cx;rw[e];simp only[Bq,ih]
theorem Qn{K:Kd->List UInt8->Option (Vl × List UInt8)}{P:Fd->Vl->Prop}{fs:List Fd}(hK:∀f∈fs,∀s v r,K f.kind s=some (v,r)->P f v/\s=Bc v++r){s r:List UInt8}{p:Fd × Vl}
  (h:Cy K fs s=some (p,r)):p.1.tag<=200/\Au fs p.1.tag=some p.1/\P p.1 p.2/\s=Bc (De p)++r:=by
 unfold Cy at h;cases ht:Fq fs s with
 |none=>rw[ht]at h;cases h
 |some q=>
  obtain⟨f,z⟩:=q;rw[ht]at h;simp only at h;obtain⟨h1,h2,rfl,_⟩:=H4 ht;cases hb:Ar 61 z with
  |none=>rw[hb]at h;cases h
  |some q=>
   rw[hb]at h;simp only at h;rw[Ck]at hb;subst hb;cases hk:K f.kind q with
   |none=>rw[hk]at h;cases h
   |some y=>
    obtain⟨v,y⟩:=y;rw[hk]at h;simp only[aj,aE]at h;obtain⟨rfl,rfl⟩:=h;obtain⟨h3,rfl⟩:=hK f (As h2).2 _ _ _ hk;exact⟨h1,h2,h3,by simp[De,Bc,Dz,Gs,Av]⟩
theorem Qi{K:Kd->List UInt8->Option (Vl × List UInt8)}{fs:List Fd}{p:Fd × Vl}{r:List UInt8}(h1:p.1.tag<=200)(h2:Au fs p.1.tag=some p.1)(hK:K p.1.kind (Bc p.2++r)=some (p.2,r)):
  Cy K fs (Bc (De p)++r)=some (p,r):=by
 have e:Bc (De p)++r=Bb p.1.tag++(61::(Bc p.2++r)):=by simp[De,Bc,Dz,Gs,Av]
 rw[e];unfold Cy;rw[Qba h1 h2 (Je _ aK)];simp only[Bq,hK]
theorem Qbn{S:List Ty}{K:Kd->List UInt8->Option (Vl × List UInt8)}{P:Fd->Vl->Prop}{fs:List Fd}(hK:∀f∈fs,∀s v r,K f.kind s=some (v,r)->P f v/\s=Bc v++r):∀(m last:Nat) (s:List UInt8) (ps:List (Fd × Vl)) (r:List UInt8),
  Dy S K fs m last s=some (ps,r)->ps≠[]/\(∀p∈ps,last<p.1.tag/\Au fs p.1.tag=some p.1/\P p.1 p.2/\Bc p.2≠Jp S p.1)/\(ps.Pairwise fun p q=>p.1.tag<q.1.tag)/\s=Av 44 (ps.map fun p=>Bc (De p))++125::r:=by
 intro m;induction m with
 |zero=>intro last s ps r h;cases h
 |succ m ih=>
  intro last s ps r h;unfold Dy at h;cases hk:Cy K fs s with
  |none=>rw[hk]at h;cases h
  |some q=>
   obtain⟨p,z⟩:=q;rw[hk]at h;simp only at h;obtain⟨h1,h2,h3,rfl⟩:=Qn hK hk;split at h
   ·cases h
   rename_i hno;have hno1:last<p.1.tag:=aH;have hno2:Bc p.2≠Jp S p.1:=fun e=>hno (.inr e);cases hb:Ar 44 z with
   |some q=>
    rw[hb]at h;simp only at h;cases hi:Dy S K fs m p.1.tag q with
    |none=>rw[hi]at h;cases h
    |some y=>
     obtain⟨us,y⟩:=y;rw[hi]at h;simp only[aj,aE]at h;obtain⟨rfl,rfl⟩:=h;obtain⟨i1,i2,i3,i4⟩:=ih _ _ _ _ hi;rw[Ck]at hb;subst hb;refine⟨by simp,?_,?_,?_⟩
     ·intro x hx;rcases aA.1 hx with rfl|hx
      ·exact⟨hno1,h2,h3,hno2⟩
      obtain⟨j1,j2⟩:=i2 x hx;exact⟨by omega,j2⟩
     ·exact List.pairwise_cons.2 ⟨fun x hx=>(i2 x hx).1,i3⟩
     rw[ay,Qdt 44 _ (by simpa using i1),i4];simp
   |none=>
    rw[hb]at h;simp only at h;cases hb:Ar 125 z with
    |none=>rw[hb]at h;cases h
    |some q=>
     rw[hb]at h;simp only[aj,aE]at h;obtain⟨rfl,rfl⟩:=h;rw[Ck]at hb;subst hb;refine⟨by simp,?_,by simp,by simp[Av]⟩;intro x hx;rw[aq]at hx;subst hx;exact⟨hno1,h2,h3,hno2⟩
theorem Tz{S:List Ty}{K:Kd->List UInt8->Option (Vl × List UInt8)}{fs:List Fd}:∀(m last:Nat) (ps:List (Fd × Vl)) (r:List UInt8),
  (∀p∈ps,∀r,Pz r->K p.1.kind (Bc p.2++r)=some (p.2,r))->ps≠[]->(∀p∈ps,last<p.1.tag/\p.1.tag<=200/\Au fs p.1.tag=some p.1/\Bc p.2≠Jp S p.1)->(ps.Pairwise fun p q=>p.1.tag<q.1.tag)->201<=m+last ->
  Dy S K fs m last (Av 44 (ps.map fun p=>Bc (De p))++125::r)=some (ps,r)
 |0,last,[],r,_,h,_,_,_=>absurd rfl h
 |0,last,p::ps,r,_,_,hp,_,hl=>by have:=hp p aL;omega
 |m+1,last,[],r,_,h,_,_,_=>absurd rfl h
 |m+1,last,[p],r,hK,_,hp,_,hl=>by
  obtain⟨h1,h2,h3,h4⟩:=hp p aL;have e:=Qi h2 h3 (hK p aL (125::r) (Je _ aK));simp only[ay,List.map_nil,Av];unfold Dy;rw[e];simp only;rw[if_neg cQ];simp only[Di (show (125:UInt8)≠44 by decide),Bq]
 |m+1,last,p::q::ps,r,hK,_,hp,hw,hl=>by
  obtain⟨h1,h2,h3,h4⟩:=hp p aL;obtain⟨w1,w2⟩:=List.pairwise_cons.1 hw;have ih:=Tz m p.1.tag (q::ps) r (fun z hz=>hK z fh) aL (fun z hz=>⟨w1 z hz,(hp z fh).2⟩) w2 aH;have e:=Qi (K:=K) h2 h3 (hK p aL (44::(Av 44 ((q::ps).map fun p=>Bc (De p))++125::r)) (Je _ aK));rw[ay,Qdt 44 _ aL,List.append_assoc,av];unfold Dy;rw[e];simp only;rw[if_neg cQ];simp only[Bq,ih]
theorem Qbb{k:Kd}(h:Cw k){c:UInt8}{t:List UInt8}(hs:k.signs=c::t):c=91\/c=63:=by
 have:=h.1;rw[hs]at this;simp only[List.all_cons,aw,Bo,Bool.or_eq_true,beq_iff_eq]at this;exact this.1
theorem Kf{S:List Ty}(hS:∀t∈S,Ep t){n:List UInt8}{t:Ty}(ht:Bp S n=some t)(h9:t.sort≠69){f:Fd}(hf:f∈t.fields):Cw f.kind/\f.tag<=200:=by
 have h:=(hS t (Cu ht).1).2.2.1.1 f hf;exact⟨(h.2.2.2.2 h9).1,h.2.1⟩
theorem Mg(fs:List (Fd × Vl)):Bc (.mk 82 [] 0 (fs.map De))=123::(Av 44 (fs.map fun p=>Bc (De p))++[125]):=by
 simp[Bc,Q8,Gs];rfl
theorem G8(ks:List Vl):Bc (.mk 91 [] 0 ks)=91::(Av 44 (ks.map Bc)++[93]):=by simp[Bc,Q8,Gs]
theorem Zj(f:Fd)(x:Vl):Bc (.mk 85 [] f.tag [x])=60::(Bc (De (f,x))++[62]):=by simp[Bc,Dz,Gs,De,Av]
theorem Fr{S:List Ty}(hS:∀t∈S,Ep t)(m:Nat):∀(d:Nat) (k:Kd) (s:List UInt8) (v:Vl) (r:List UInt8),Cw k->An S m d k s=some (v,r)->Nn S d k v/\s=Bc v++r:=by
 intro d;induction d with
 |zero=>intro k s v r _ h;cases h
 |succ d ih=>
  intro k s v r hk h;unfold An at h;cases hs:k.signs with
  |cons c t=>
   rw[hs]at h;simp only at h;have hp:=(Jl hk).1;by_cases h91:c=91
   ·subst h91;rw[if_pos rfl]at h;unfold S1 at h;cases hb:Ar 91 s with
    |none=>rw[hb]at h;cases h
    |some q=>
     rw[hb]at h;simp only at h;rw[Ck]at hb;subst hb;cases hb:Ar 93 q with
     |some z=>
      rw[hb]at h;simp only[aj,aE]at h;obtain⟨rfl,rfl⟩:=h;rw[Ck]at hb;subst hb;exact⟨.lst hs aL aL,by rw[G8];rfl⟩
     |none=>
      rw[hb]at h;simp only at h;cases hi:Cx (An S m d k.part) m q with
      |none=>rw[hi]at h;cases h
      |some y=>
       obtain⟨us,y⟩:=y;rw[hi]at h;simp only at h;split at h
       ·rename_i hl;simp only[aj,aE]at h;obtain⟨rfl,rfl⟩:=h;obtain⟨_,_,i3,i4⟩:=Qaq (P:=Nn S d k.part) (fun s v r h=>ih _ _ _ _ hp h) _ _ _ _ hi;exact⟨.lst hs hl i3,by rw[G8,i4];simp⟩
       cases h
   have h63:=(Qbb hk hs).resolve_left h91;subst h63;rw[if_neg h91]at h;unfold Qac at h;cases hb:Ar 45 s with
   |some q=>
    rw[hb]at h;simp only[aj,aE]at h;obtain⟨rfl,rfl⟩:=h;rw[Ck]at hb;subst hb;exact⟨.non hs,rfl⟩
   |none=>
    rw[hb]at h;simp only at h;cases hb:Ar 43 s with
    |none=>rw[hb]at h;cases h
    |some q=>
     rw[hb]at h;simp only at h;rw[Ck]at hb;subst hb;cases hi:An S m d k.part q with
     |none=>rw[hi]at h;cases h
     |some y=>
      obtain⟨x,y⟩:=y;rw[hi]at h;simp only[aj,aE]at h;obtain⟨rfl,rfl⟩:=h;obtain⟨i1,rfl⟩:=ih _ _ _ _ hp hi;exact⟨.som hs i1,by simp[Bc,Dz,Gs,Av]⟩
  |nil=>
   rw[hs]at h;simp only at h;split at h
   ·rename_i hb;cases hn:Qg s with
    |none=>rw[hn]at h;cases h
    |some q=>
     obtain⟨n,q⟩:=q;rw[hn]at h;simp only[aj,aE]at h;obtain⟨rfl,rfl⟩:=h;obtain⟨h1,h2,_⟩:=Xn hn;exact⟨.n hs hb h1,by rw[h2];simp[Bc,Dz,Gs]⟩
   split at h
   ·rename_i hb;cases hn:Mo s with
    |none=>rw[hn]at h;cases h
    |some q=>
     obtain⟨x,q⟩:=q;rw[hn]at h;simp only[aj,aE]at h;obtain⟨rfl,rfl⟩:=h;obtain⟨h1,rfl⟩:=Xr.1 hn;exact⟨.t hs hb h1,by simp[Bc,Dz,Gs]⟩
   split at h
   ·rename_i hb;cases hn:Nz s with
    |none=>rw[hn]at h;cases h
    |some q=>
     obtain⟨x,q⟩:=q;rw[hn]at h;simp only[aj,aE]at h;obtain⟨rfl,rfl⟩:=h;have:=Ts.1 hn;exact⟨.f hs hb,by rw[this];simp[Bc,Dz,Gs]⟩
   rename_i b1 b2 b3;have hb:k.base=[64]:=by
    rcases hk.2.1 with h|⟨h|h|h,_⟩
    ·exact h.1
    ·exact absurd h b1
    ·exact absurd h b2
    exact absurd h b3
   cases ht:Bp S k.name with
   |none=>rw[ht]at h;cases h
   |some t=>
    rw[ht]at h;simp only at h;unfold Ju at h;by_cases h9:t.sort=69
    ·rw[if_pos h9]at h;cases hb3:Ar 35 s with
     |none=>rw[hb3]at h;cases h
     |some q=>
      rw[hb3]at h;simp only at h;rw[Ck]at hb3;subst hb3;cases hg:Fq t.fields q with
      |none=>rw[hg]at h;cases h
      |some y=>
       obtain⟨f,y⟩:=y;rw[hg]at h;simp only[aj,aE]at h;obtain⟨rfl,rfl⟩:=h;obtain⟨_,h2,h3,_⟩:=H4 hg;exact⟨.enm hs hb ht h9 h2,by rw[h3];simp[Bc,Dz,Gs]⟩
    rw[if_neg h9]at h;have hK:∀f∈t.fields,∀s v r,An S m d f.kind s=some (v,r)->Nn S d f.kind v/\s=Bc v++r:=fun f hf s v r hr=>ih _ _ _ _ (Kf hS ht h9 hf).1 hr;by_cases h5:t.sort=85
    ·rw[if_pos h5]at h;cases hb3:Ar 60 s with
     |none=>rw[hb3]at h;cases h
     |some q=>
      rw[hb3]at h;simp only at h;rw[Ck]at hb3;subst hb3;cases hg:Cy (An S m d) t.fields q with
      |none=>rw[hg]at h;cases h
      |some y=>
       obtain⟨p,y⟩:=y;rw[hg]at h;simp only at h;cases hb4:Ar 62 y with
       |none=>rw[hb4]at h;cases h
       |some z=>
        rw[hb4]at h;simp only[aj,aE]at h;obtain⟨rfl,rfl⟩:=h;rw[Ck]at hb4;subst hb4;obtain⟨_,h2,h3,rfl⟩:=Qn (P:=fun f v=>Nn S d f.kind v) hK hg;exact⟨.uni hs hb ht h5 h2 h3,by rw[Zj];simp⟩
    rw[if_neg h5]at h;have h2:t.sort=82:=by
     rcases(hS t (Cu ht).1).1 with h|h|h
     ·exact h
     ·exact absurd h h5
     exact absurd h h9
    cases hb3:Ar 123 s with
    |none=>rw[hb3]at h;cases h
    |some q=>
     rw[hb3]at h;simp only at h;rw[Ck]at hb3;subst hb3;cases hb4:Ar 125 q with
     |some z=>
      rw[hb4]at h;simp only[aj,aE]at h;obtain⟨rfl,rfl⟩:=h;rw[Ck]at hb4;subst hb4;exact⟨.rcd (fs:=[]) hs hb ht h2 aL aL aL aL,rfl⟩
     |none=>
      rw[hb4]at h;simp only at h;cases hg:Dy S (An S m d) t.fields 201 0 q with
      |none=>rw[hg]at h;cases h
      |some y=>
       obtain⟨ps,y⟩:=y;rw[hg]at h;simp only[aj,aE]at h;obtain⟨rfl,rfl⟩:=h;obtain⟨_,i2,i3,i4⟩:=Qbn (P:=fun f v=>Nn S d f.kind v) hK _ _ _ _ _ hg;exact⟨.rcd hs hb ht h2 (fun p hp=>(i2 p hp).2.1) (fun p hp=>(i2 p hp).2.2.1) (fun p hp=>(i2 p hp).2.2.2) i3,by rw[Mg,i4];simp⟩
theorem Qfu{S:List Ty}{d:Nat}{k:Kd}{v:Vl}(h:Nn S d k v):∃c t,Bc v=c::t/\c≠93/\c≠125/\c≠44:=by
 cases h with
 |@n _ _ m hs hb h=>
  have e:Bc (.mk 110 (Bb m) 0 [])=Bb m:=by simp[Bc,Dz,Gs]
  rw[e];cases hd:Bb m with
  |nil=>exact absurd hd (Ri m)
  |cons c t=>
   have:=N8 m;rw[hd,List.all_cons,aw,Dh]at this;refine⟨c,t,rfl,?_,?_,?_⟩<;>(rintro rfl;revert this;simp)
 |t=>exact⟨39,_,rfl,by decide,by decide,by decide⟩
 |@f _ _ b=>cases b<;>exact⟨_,_,rfl,by decide,by decide,by decide⟩
 |lst=>exact⟨91,_,rfl,by decide,by decide,by decide⟩
 |non=>exact⟨45,_,rfl,by decide,by decide,by decide⟩
 |som=>exact⟨43,_,rfl,by decide,by decide,by decide⟩
 |enm=>exact⟨35,_,rfl,by decide,by decide,by decide⟩
 |uni=>exact⟨60,_,rfl,by decide,by decide,by decide⟩
 |rcd=>exact⟨123,_,rfl,by decide,by decide,by decide⟩
theorem Ku{S:List Ty}(hS:∀t∈S,Ep t){m:Nat}(hm:20<=m):∀(d:Nat) (k:Kd) (v:Vl) (r:List UInt8),Nn S d k v->Pz r->An S m d k (Bc v++r)=some (v,r):=by
 intro d;induction d with
 |zero=>intro k v r h;cases h
 |succ d ih=>
  intro k v r h hr;unfold An;cases h with
  |@n _ _ n hs hb h=>
   rw[hs];simp only;rw[if_pos hb];have e:Bc (.mk 110 (Bb n) 0 [])=Bb n:=by simp[Bc,Dz,Gs]
   rw[e,Qab h hr]
  |@t _ _ s hs hb h=>
   rw[hs];simp only;rw[if_neg bS,if_pos hb];rw[show Mo (Bc (.mk 116 s 0 [])++r)=some (s,r)from Xr.2 ⟨h,by simp[Bc,Dz,Gs]⟩]
  |@f _ _ b hs hb=>
   rw[hs];simp only;rw[if_neg bS,if_neg bS,if_pos hb];rw[show Nz (Bc (.mk 102 (if b then Ei else My) 0 [])++r)=some (b,r)from Ts.2 (by cases b<;>simp[Bc,Dz,Gs])]
  |@lst _ _ t ks hs hl h=>
   rw[hs];simp only;rw[if_pos Ac];unfold S1;rw[G8,av,Bq];simp only;cases ks with
   |nil=>rfl
   |cons x ks=>
    obtain⟨c,q,e1,e2,_⟩:=Qfu (h x aL);have e3:Ar 93 (Av 44 ((x::ks).map Bc)++[93]++r)=none:=by
     cases ks with
     |nil=>simp only[ay,List.map_nil,Av,e1,av,Di e2]
     |cons y ks=>rw[ay,Qdt 44 _ aL,e1];simp only[av,Di e2]
    rw[e3];simp only;rw[List.append_assoc,List.singleton_append,Sp m (x::ks) r (fun y hy r hr=>ih _ _ _ (h y hy) hr) aL aH];simp only;rw[if_pos hl]
  |@non _ _ t hs=>rw[hs];rfl
  |@som _ _ t x hs h=>
   rw[hs];simp only;rw[if_neg aK];have e:Bc (.mk 63 [] 0 [x])=43::Bc x:=by simp[Bc,Dz,Gs,Av]
   unfold Qac;rw[e,av,Di aK,Bq];simp only;rw[ih _ _ _ h hr]
  |@enm _ _ t f hs hb ht h9 hf=>
   rw[hs];simp only;rw[if_neg bS,if_neg bS,if_neg bS,ht];simp only;unfold Ju;have h200:f.tag<=200:=((hS t (Cu ht).1).2.2.1.1 f (As hf).2).2.1;have e:Bc (.mk 69 [] f.tag [])=35::Bb f.tag:=by simp[Bc,Dz,Gs]
   rw[if_pos h9,e,av,Bq];simp only;rw[Qba h200 hf hr]
  |@uni _ _ t f x hs hb ht h5 hf h=>
   rw[hs];simp only;rw[if_neg bS,if_neg bS,if_neg bS,ht];simp only;unfold Ju;have h9:t.sort≠69:=dD;rw[if_neg h9,if_pos h5,Zj,av,Bq];simp only;rw[List.append_assoc,List.singleton_append,Qi (p:=(f,x)) (Kf hS ht h9 (As hf).2).2 hf (ih _ _ (62::r) h (Je (c:=62) _ aK))];simp only[Bq]
  |@rcd _ _ t fs hs hb ht h2 hf h hn hp=>
   rw[hs];simp only;rw[if_neg bS,if_neg bS,if_neg bS,ht];simp only;unfold Ju;have h9:t.sort≠69:=cO;rw[if_neg h9,if_neg cO,Mg,av,Bq];simp only;cases fs with
   |nil=>rfl
   |cons p fs=>
    have e3:Ar 125 (Av 44 ((p::fs).map fun p=>Bc (De p))++[125]++r)=none:=by
     have e1:Bc (De p)=Bb p.1.tag++61::Bc p.2:=by simp[De,Bc,Dz,Gs,Av]
     cases hd:Bb p.1.tag with
     |nil=>exact absurd hd (Ri _)
     |cons c q=>
      have hc:=N8 p.1.tag;rw[hd,List.all_cons,aw,Dh]at hc;have e2:c≠125:=by rintro rfl;revert hc;simp
      rw[hd]at e1;cases fs with
      |nil=>simp only[ay,List.map_nil,Av,e1,av,Di e2]
      |cons y fs=>rw[ay,Qdt 44 _ aL,e1];simp only[av,Di e2]
    rw[e3];simp only
    rw[List.append_assoc,List.singleton_append,Tz 201 0 (p::fs) r (fun q hq r hr=>ih _ _ _ (h q hq) hr) aL
     (fun q hq=>?_) hp aH]
    have hm:=(As (hf q hq)).2;have h1:=((hS t (Cu ht).1).2.2.1.1 q.1 hm).1;exact⟨h1,(Kf hS ht h9 hm).2,hf q hq,hn q hq⟩
theorem Qhv{S:List Ty}(hS:∀t∈S,Ep t){d:Nat}{k:Kd}{v u:Vl}(hv:Nn S d k v)(hu:Nn S d k u)(h:Bc v=Bc u):v=u:=by
 have h1:=Ku hS (Ap 20) d k v [] hv Mv;have h2:=Ku hS (Ap 20) d k u [] hu Mv;rw[h,h2]at h1;injection h1 with h1;injection h1 with h1;exact h1.symm
def G7(S:List Ty)(k:Kd)(s:List UInt8):Option Vl:=
 if 400<s.length then none else match An S 20 12 k s with
  |some (v,[])=>some v
  |_=>none
theorem J4{S:List Ty}(hS:∀t∈S,Ep t){k:Kd}(hk:Cw k){s:List UInt8}{v:Vl}:G7 S k s=some v↔Nn S 12 k v/\Bc v=s/\s.length<=400:=by
 unfold G7;constructor
 ·intro h;split at h
  ·cases h
  rename_i hl;cases hr:An S 20 12 k s with
  |none=>rw[hr]at h;cases h
  |some q=>
   obtain⟨x,r⟩:=q;rw[hr]at h;cases r with
   |cons c t=>cases h
   |nil=>
    simp only[aj]at h;subst h;obtain⟨h1,h2⟩:=Fr hS 20 12 k s x [] hk hr;exact⟨h1,by rw[h2,List.append_nil],by omega⟩
 rintro⟨h1,rfl,hl⟩;rw[if_neg aH];have:=Ku hS (Ap 20) 12 k v [] h1 Mv;rw[List.append_nil]at this;rw[this]
theorem Qd8{S:List Ty}(hS:∀t∈S,Ep t){k:Kd}(hk:Cw k){s:List UInt8}(hl:s.length<=400)(m n:Nat)(hm:20<=m)(hn:12<=n):
  G7 S k s=match An S m n k s with|some (v,[])=>if Kv v<=12 then some v else none|_=>none:=by
 cases hr:An S m n k s with
 |none=>
  cases hv:G7 S k s with
  |none=>rfl
  |some v=>
   obtain⟨h1,h2,_⟩:=(J4 hS hk).1 hv;have h3:Nn S n k v:=(Gz S _ _ _ h1 n).2 (ad ((Gz S _ _ _ h1 12).1 h1) hn);have:=Ku hS hm n k v [] h3 Mv;rw[List.append_nil,h2,hr]at this;cases this
 |some q=>
  obtain⟨x,r⟩:=q;obtain⟨h1,h2⟩:=Fr hS m n k s x r hk hr;cases r with
  |nil=>
   simp only;rw[List.append_nil]at h2;by_cases hd:Kv x<=12
   ·rw[if_pos hd,J4 hS hk];exact⟨(Gz S _ _ _ h1 12).2 hd,h2.symm,hl⟩
   rw[if_neg hd];cases hv:G7 S k s with
   |none=>rfl
   |some v=>
    obtain⟨i1,i2,_⟩:=(J4 hS hk).1 hv;have h3:Nn S n k v:=(Gz S _ _ _ i1 n).2 (ad ((Gz S _ _ _ i1 12).1 i1) hn);have e:=Qhv hS h3 h1 (by rw[i2,h2]);subst e;exact absurd ((Gz S _ _ _ i1 12).1 i1) hd
  |cons c t=>
   simp only;cases hv:G7 S k s with
   |none=>rfl
   |some v=>
    obtain⟨i1,i2,_⟩:=(J4 hS hk).1 hv;have h3:Nn S n k v:=(Gz S _ _ _ i1 n).2 (ad ((Gz S _ _ _ i1 12).1 i1) hn);have:=Ku hS hm n k v [] h3 Mv;rw[List.append_nil,i2,hr]at this;injection this with this;injection this with _ this;cases this
end
section
attribute [local go_sem] Qii Qib Qgw
theorem S5(s p:List UInt8):(s.take p.length == p)=p.isPrefixOf s:=by
 rw[Bool.eq_iff_iff,beq_iff_eq,List.isPrefixOf_iff_prefix,List.prefix_iff_eq_take];exact eq_comm
theorem Sz(s p:List UInt8)(h:¬p.length<=s.length):p.isPrefixOf s=false:=by
 rw[Bool.eq_false_iff,Ne,List.isPrefixOf_iff_prefix];intro hp;exact h hp.length_le
theorem V6(s p:List UInt8)(w:World):
  Calls prog 119 #[s,p] w fun e w'=>e=.returned (.bool (p.isPrefixOf s))/\w=w':=by
 by_cases h:p.length<=s.length
 ·have HS:=Aa (S5 s p);go_enter func119,ntmps119;go_wp2
  go_ret;exact⟨by rw[<-HS.o];rfl,rfl⟩
 have HS:=Aa (Sz s p h);go_enter func119,ntmps119;go_wp2
 go_ret;exact⟨by rw[HS.o];rfl,rfl⟩
end
theorem Mp{α:Type}{p q:α->Bool}:∀(l:List α) (_:∀x,q x=true->p x=true) {a:α} (_:a∈l) (_:p a=true) (_:q a=false),(l.filter q).length<(l.filter p).length
 |[],_,_,ha,_,_=>by cases ha
 |x::l,h,a,ha,hp,hq=>by
  have hle:∀l:List α,(l.filter q).length<=(l.filter p).length:=by
   intro l;induction l with
   |nil=>exact Ap _
   |cons y l ih=>
    simp only[List.filter_cons];by_cases h1:q y=true
    ·rw[if_pos h1,if_pos (h y h1)];simpa using ih
    rw[if_neg h1];split
    ·simp;omega
    exact ih
  rcases aA.1 ha with rfl|ha
  ·have:=hle l;simp only[List.filter_cons,hp,hq];simp;omega
  have ih:=Mp l h ha hp hq;simp only[List.filter_cons];by_cases h1:q x=true
  ·rw[if_pos h1,if_pos (h x h1)];simpa using ih
  rw[if_neg h1];split
  ·simp;omega
  exact ih
section
variable {P:Program} {ops:Array Oper} {Q:Exit->Act->World->Prop} {md:Region.Mode}
def Rk(ops:Array Oper)(listed:Array Bool):Nat:=((List.range ops.size).filter fun i=>!listed.getD i false).length
theorem Yd(hac:∀(i:Nat) (o:Oper),ops[i]?=some o->∀e∈o.after,Region.binds md e=true->e.on<i)(I:(Nat->Bool)->Act->World->Prop)
  (hstep:∀(l:Nat->Bool) a w i o,ops[i]?=some o->l i=false->(∀e∈o.after,Region.binds md e=true->l e.on=true)->I l a w->wpOp P ops Q i (I fun j=>if j=i then true else l j) a w)
  (hdone:∀l a w,(∀i,i<ops.size->l i=true)->I l a w->Q .normal a w):
  ∀(fuel:Nat) (listed:Array Bool) a w,listed.size=ops.size->Rk ops listed<=fuel->I (fun j=>listed.getD j false) a w->wpAny P md ops Q fuel listed a w:=by
 have hall:∀listed:Array Bool,listed.size=ops.size->Region.ready md ops listed=[]->∀i,i<ops.size->listed.getD i false=true:=by
  intro listed hsz hr i;induction i using Nat.strongRecOn with
  |ind i ih=>
   intro hi;cases hb:listed.getD i false with
   |true=>rfl
   |false=>
    have:i∈Region.ready md ops listed:=by
     rw[mem_ready]
     refine ⟨by have h2:i<listed.size:=by omega
                simpa [Array.getD,h2]using hb,ops[i],by simp[hi],fun e he hbd=>?_⟩
     have h1:=hac i ops[i] (by simp[hi]) e he hbd;exact ih e.on h1 aH
    rw[hr]at this;cases this
 intro fuel;induction fuel with
 |zero=>
  intro listed a w hsz hst hI;have hall':∀i,i<ops.size->listed.getD i false=true:=by
   intro i hi;have h0:((List.range ops.size).filter fun i=>!listed.getD i false)=[]:=List.eq_nil_of_length_eq_zero (by unfold Rk at hst;omega);have:=List.filter_eq_nil_iff.1 h0 i (List.mem_range.2 hi);simpa using this
  refine⟨?_,hdone _ a w hall' hI⟩;cases hr:Region.ready md ops listed with
  |nil=>rfl
  |cons j js=>
   have hj:j∈Region.ready md ops listed:=by rw[hr];simp
   obtain⟨h1,o,h2,_⟩:=mem_ready.1 hj;have h3:j<ops.size:=(Array.getElem?_eq_some_iff.1 h2).1;have h4:=hall' j h3;have h5:j<listed.size:=aH;simp[Array.getD,h5]at h1 h4;rw[h1]at h4;cases h4
 |succ fuel ih=>
  intro listed a w hsz hst hI;refine⟨fun hr=>hdone _ a w (hall listed hsz hr) hI,fun i hi=>?_⟩;obtain⟨h1,o,h2,h3⟩:=mem_ready.1 hi;have hlt:i<ops.size:=(Array.getElem?_eq_some_iff.1 h2).1;have hlt2:i<listed.size:=aH;have h1':listed.getD i false=false:=by simpa [Array.getD,hlt2]using h1
  have hset:∀j,(listed.setIfInBounds i true).getD j false=if j=i then true else listed.getD j false:=by
   intro j;by_cases hj:j=i
   ·subst hj;simp[Array.getD,hlt2]
   rw[if_neg hj,getD_set_ne _ (Ne.symm hj)]
  refine wpOp_mono (fun a' w' h=>ih (listed.setIfInBounds i true) a' w' (by simpa using hsz) ?_ ?_) (hstep _ a w i o h2 h1' h3 hI)
  ·have:=Mp (p:=fun i=>!listed.getD i false) (q:=fun j=>!(listed.setIfInBounds i true).getD j false) (List.range ops.size) (fun x hx=>by
    simp only[Bool.not_eq_true']at hx ⊢;rw[hset]at hx;by_cases hxi:x=i
    ·rw[if_pos hxi]at hx;cases hx
    rwa [if_neg hxi]at hx) (List.mem_range.2 hlt) (by simp only[h1',Bool.not_false]) (by simp only[hset,if_true,Bool.not_true])
   unfold Rk at hst ⊢;omega
  have e:(fun j=>(listed.setIfInBounds i true).getD j false)=fun j=>if j=i then true else listed.getD j false:=funext hset
  rw[e];exact h
def Ah(p:Nat->Oper->Prop)(k:Nat)(os:List Oper):Prop:=∀i o,os[i]?=some o->p (k+i) o
theorem Ah.nil{p:Nat->Oper->Prop}{k:Nat}:Ah p k []:=fun i o h=>by simp at h
theorem Ah.cons{p:Nat->Oper->Prop}{k:Nat}{o:Oper}{os:List Oper}(h:p k o)(hs:Ah p (k+1) os):Ah p k (o::os):=fun i o' ho=>by
 cases i with
 |zero=>simp at ho;subst ho;exact h
 |succ i=>simp at ho;have:=hs i o' ho;rwa [Nat.add_assoc,Nat.add_comm 1 i]at this
theorem Xe{id:Nat}(hm:P.follows .mixedOrders=true)(hac:(List.range ops.size).all (fun i=>((ops[i]?).map fun o=>o.after.all fun e=>!Region.binds .any e || decide (e.on<i)).getD true)=true)
  (mk:(Nat->Value)->Act) (u0:Nat->Value) {a:Act} (ha:a=mk u0) {w:World}
  (φ:Nat->Value->World->Prop) (R:(Nat->Bool)->World->Prop) (Rel:World->World->Prop)
  (hput:Ah (fun i o=>∀u v,(mk u).put o.dst v=mk (fun j=>if j=i then v else u j)) 0 ops.toList)
  (hst:∀w w',Rel w w'->∀i v,φ i v w->φ i v w')
  (h0:R (fun _=>false) w.drew)
  (hstep:Ah (fun i o=>∀(l:Nat->Bool) u w,l i=false->(∀e∈o.after,Region.binds .any e=true->l e.on=true/\φ e.on (u e.on) w)->R l w ->
   ∀K:Act->World->Prop,(∀v w' a',φ i v w'->Rel w w'->R (fun j=>if j=i then true else l j) w'->a'=(mk u).put o.dst v->K a' w') ->
    if Region.wanted o (yielded ops (mk u).tmps)=true then Oper.wp P o (mk u) w K Q else K ((mk u).put o.dst undef) w) 0 ops.toList)
  (hdone:∀(l:Nat->Bool) u w,(∀i,i<ops.size->l i=true)->(∀i,i<ops.size->φ i (u i) w)->R l w->Q .normal (mk u) w):(Code.region id ops true).wp P Q a w:=by
 subst ha;have hst':=fun i v w w' h=>hst w w' h i v;have hac':∀(i:Nat) (o:Oper),ops[i]?=some o->∀e∈o.after,Region.binds .any e=true->e.on<i:=by
  intro i o ho e he hbd;have hlt:i<ops.size:=(Array.getElem?_eq_some_iff.1 ho).1;have h:=List.all_eq_true.1 hac i (List.mem_range.2 hlt);rw[ho]at h;have:=Array.all_eq_true_iff_forall_mem.1 h e he;simpa [hbd]using this
 refine wp_region_any hm ?_
 refine Yd hac' (fun l a w=>∃u,a=mk u/\(∀i,l i=true->i<ops.size->φ i (u i) w)/\R l w) ?_ ?_ ops.size _ (mk u0) _ aL (by
  unfold Rk;exact ad (List.length_filter_le _ _) aL) ⟨u0,rfl,?_,?_⟩
 ·rintro l a w i o ho hl hpre ⟨u,rfl,hφ,hR⟩;have ho':ops.toList[i]?=some o:=by simpa using ho
  have hp:=hput i o ho';have hs:=hstep i o ho';rw[am]at hp hs;refine wpOp_step ho fun K' hK'=>?_;refine hs l u w hl (fun e he hb=>⟨hpre e he hb,hφ e.on (hpre e he hb) ?_⟩) hR K' (fun v w' a' hv hrel hR' ha'=>hK' _ _ ⟨_,ha'.trans (hp u v),fun j hj hjs=>?_,hR'⟩)
  ·exact jI
  by_cases hji:j=i
  ·subst hji;simpa using hv
  have hj':l j=true:=g7;simpa [hji]using hst' j _ w w' hrel (hφ j hj' hjs)
 ·rintro l a w hl ⟨u,rfl,hφ,hR⟩;exact hdone l u w hl (fun i hi=>hφ i (hl i hi) hi) hR
 ·intro i hi;simp[Array.getD]at hi
 have e:(fun j=>(Array.replicate ops.size false).getD j false)=fun _=>false:=by
  funext j
  simp[Array.getD]
 rw[e];exact h0
def Bm:List Nat->Nat->(Nat->Value)->List Value->List Value
 |[],_,_,t=>t
 |s::S,i,u,t=>Bm S (i+1) u (t.set s (u i))
def Qbm(a:Act)(S:List Nat)(u:Nat->Value):Act:={tmps:=(Bm S 0 u a.tmps.toList).toArray,defers:=a.defers}
theorem Nd:∀(S:List Nat) (i:Nat) (u:Nat->Value) (t:List Value),(∀k s,S[k]?=some s->u (i+k)=t.getD s undef)->Bm S i u t=t
 |[],_,_,_,_=>rfl
 |s::S,i,u,t,h=>by
  have h0:u i=t.getD s undef:=by simpa using h 0 s rfl
  have e:t.set s (u i)=t:=by
   rw[h0];apply List.ext_getElem?;intro j;by_cases hj:s=j
   ·subst hj;by_cases hl:s<t.length
    ·simp[List.getD,hl]
    simp[hl]
   simp[hj]
  rw[Bm,e];exact Nd S (i+1) u t fun k s' hk=>by
   have:=h (k+1) s' (by simpa using hk);rwa [show i+1+k=i+(k+1)by omega]
theorem Mm:∀(S:List Nat) (i:Nat) (u v:Nat->Value) (t:List Value),(∀j,i<=j->u j=v j)->Bm S i u t=Bm S i v t
 |[],_,_,_,_,_=>rfl
 |s::S,i,u,v,t,h=>by
  rw[Bm,Bm,h i (Ap _)];exact Mm S (i+1) u v _ fun j hj=>h j aH
theorem Rc:∀(S:List Nat) (i:Nat) (u:Nat->Value) (t:List Value) (s:Nat) (v:Value),s∉S->(Bm S i u t).set s v=Bm S i u (t.set s v)
 |[],_,_,_,_,_,_=>rfl
 |s'::S,i,u,t,s,v,h=>by
  have h1:s≠s':=fun e=>h (by simp[e]);rw[Bm,Bm,Rc S (i+1) u _ s v (fun hm=>h (by simp[hm]))];congr 1
  exact(List.set_comm _ _ h1).symm
theorem N0:∀(S:List Nat) (i:Nat) (u:Nat->Value) (t:List Value) (k s:Nat) (v:Value),S.Nodup->S[k]?=some s->(Bm S i u t).set s v=Bm S i (fun j=>if j=i+k then v else u j) t
 |[],_,_,_,k,s,v,_,h=>by simp at h
 |s'::S,i,u,t,0,s,v,hn,h=>by
  simp at h;subst h;rw[Bm,Bm,Rc S (i+1) u _ s' v (List.nodup_cons.1 hn).1];rw[if_pos aH,List.set_set];exact Mm S (i+1) u _ _ fun j hj=>by rw[if_neg aH]
 |s'::S,i,u,t,k+1,s,v,hn,h=>by
  simp at h;rw[Bm,Bm,N0 S (i+1) u _ k s v (List.nodup_cons.1 hn).2 h,if_neg aH];rw[show i+1+k=i+(k+1)by omega]
theorem Nx:∀(S:List Nat) (i:Nat) (u:Nat->Value) (t:List Value) (k s:Nat) (v:Value),S[k]?=some s->t.length<=s->Bm S i u t=Bm S i (fun j=>if j=i+k then v else u j) t
 |[],_,_,_,k,s,v,h,_=>by simp at h
 |s'::S,i,u,t,0,s,v,h,hl=>by
  simp at h;subst h;rw[Bm,Bm,List.set_eq_of_length_le hl,List.set_eq_of_length_le hl];exact Mm S (i+1) u _ _ fun j hj=>by rw[if_neg aH]
 |s'::S,i,u,t,k+1,s,v,h,hl=>by
  simp at h;rw[Bm,Bm,Nx S (i+1) u _ k s v h fL,if_neg aH];rw[show i+1+k=i+(k+1)by omega]
def J3(n:Nat):List Oper->List Nat->Bool
 |[],[]=>true
 |o::os,s::S=>(match o.dst with|some d=>d == s|none=>decide (n<=s)) && !S.contains s && J3 n os S
 |_,_=>false
theorem M5{n:Nat}:∀{os:List Oper} {S:List Nat},J3 n os S=true->S.Nodup/\∀(i:Nat) (o:Oper),os[i]?=some o->∃s,S[i]?=some s/\(o.dst=some s\/(o.dst=none/\n<=s))
 |[],[],_=>⟨List.nodup_nil,fun i o h=>by simp at h⟩
 |[],_::_,h=>by simp[J3]at h
 |_::_,[],h=>by simp[J3]at h
 |o::os,s::S,h=>by
  simp only[J3,aw]at h;obtain⟨⟨h1,h2⟩,h3⟩:=h;obtain⟨hn,hs⟩:=M5 h3;refine⟨List.nodup_cons.2 ⟨by simpa using h2,hn⟩,fun i o' ho=>?_⟩;cases i with
  |zero=>
   simp at ho;subst ho;refine⟨s,rfl,?_⟩;cases hd:o.dst with
   |some d=>rw[hd]at h1;simp at h1;exact .inl (by rw[h1])
   |none=>rw[hd]at h1;simp at h1;exact .inr ⟨rfl,h1⟩
  |succ i=>simpa using hs i o' (by simpa using ho)
theorem Gl{id:Nat}{a:Act}{w:World}(S:List Nat)(hm:P.follows .mixedOrders=true)(hac:(List.range ops.size).all (fun i=>((ops[i]?).map fun o=>o.after.all fun e=>!Region.binds .any e || decide (e.on<i)).getD true)=true)
  (hS:J3 a.tmps.size ops.toList S=true) {mk:(Nat->Value)->Act} (hmk:∀u,Qbm a S u=mk u)
  (φ:Nat->Value->World->Prop) (R:(Nat->Bool)->World->Prop) (Rel:World->World->Prop)
  (hst:∀w w',Rel w w'->∀i v,φ i v w->φ i v w')
  (h0:R (fun _=>false) w.drew)
  (hstep:Ah (fun i o=>∀(l:Nat->Bool) u w,l i=false->(∀e∈o.after,Region.binds .any e=true->l e.on=true/\φ e.on (u e.on) w)->R l w ->
   ∀K:Act->World->Prop,(∀v w' a',φ i v w'->Rel w w'->R (fun j=>if j=i then true else l j) w'->a'=(mk u).put o.dst v->K a' w') ->
    if Region.wanted o (yielded ops (mk u).tmps)=true then Oper.wp P o (mk u) w K Q else K ((mk u).put o.dst undef) w) 0 ops.toList)
  (hdone:∀(l:Nat->Bool) u w,(∀i,i<ops.size->l i=true)->(∀i,i<ops.size->φ i (u i) w)->R l w->Q .normal (mk u) w):(Code.region id ops true).wp P Q a w:=by
 obtain rfl:Qbm a S=mk:=funext hmk;obtain⟨hn,hs⟩:=M5 hS;refine Xe hm hac (Qbm a S) (fun i=>a.tmps.toList.getD (S.getD i 0) undef) ?_ φ R Rel ?_ hst h0 hstep hdone
 ·exact jW
 intro i o ho u v;rw[am];obtain⟨s,hsi,hd|⟨hd,hb⟩⟩:=hs i o ho
 ·exact jk
 have e:=Nx S 0 u a.tmps.toList i s v hsi (by simpa using hb);rw[am]at e;unfold Qbm Act.put;rw[hd];simp only[<-e]
end
section
variable {P:Program} {ops:Array Oper} {Q:Exit->Act->World->Prop}
theorem Bi{id:Nat}{a:Act}{w:World}(S:List Nat)(hm:P.follows .mixedOrders=true)(hac:(List.range ops.size).all (fun i=>((ops[i]?).map fun o=>o.after.all fun e=>!Region.binds .any e || decide (e.on<i)).getD true)=true)
  (hS:J3 a.tmps.size ops.toList S=true) {mk:(Nat->Value)->Act} (hmk:∀u,Qbm a S u=mk u)
  (φ:Nat->Value->World->Prop) (R:(Nat->Bool)->(Nat->Value)->World->Prop) (Rel:World->World->Prop)
  (hst:∀w w',Rel w w'->∀i v,φ i v w->φ i v w')
  (h0:R (fun _=>false) (fun i=>a.tmps.toList.getD (S.getD i 0) undef) w.drew)
  (hstep:Ah (fun i o=>∀(l:Nat->Bool) u w,l i=false->(∀e∈o.after,Region.binds .any e=true->l e.on=true/\φ e.on (u e.on) w)->R l u w ->
   (∀j,l j=false->u j=a.tmps.toList.getD (S.getD j 0) undef)->(∀(j:Nat) (o:Oper),ops[j]?=some o->∀e∈o.after,Region.binds .any e=true->l e.on=false->l j=false) ->
   ∀K:Act->World->Prop,(∀v w' a',φ i v w'->Rel w w'->R (fun j=>if j=i then true else l j) (fun j=>if j=i then v else u j) w'->a'=(mk u).put o.dst v->K a' w') ->
    if Region.wanted o (yielded ops (mk u).tmps)=true then Oper.wp P o (mk u) w K Q else K ((mk u).put o.dst undef) w) 0 ops.toList)
  (hdone:∀(l:Nat->Bool) u w,(∀i,i<ops.size->l i=true)->(∀i,i<ops.size->φ i (u i) w)->R l u w->Q .normal (mk u) w):(Code.region id ops true).wp P Q a w:=by
 obtain rfl:Qbm a S=mk:=funext hmk;obtain⟨hn,hs⟩:=M5 hS;have hput:∀(i:Nat) (o:Oper),ops.toList[i]?=some o->∀u v,(Qbm a S u).put o.dst v=Qbm a S (fun j=>if j=i then v else u j):=by
  intro i o ho u v;obtain⟨s,hsi,hd|⟨hd,hb⟩⟩:=hs i o ho
  ·exact jk
  have e:=Nx S 0 u a.tmps.toList i s v hsi (by simpa using hb);rw[am]at e;unfold Qbm Act.put;rw[hd];simp only[<-e]
 have hac':∀(i:Nat) (o:Oper),ops[i]?=some o->∀e∈o.after,Region.binds .any e=true->e.on<i:=by
  intro i o ho e he hbd;have hlt:i<ops.size:=(Array.getElem?_eq_some_iff.1 ho).1;have h:=List.all_eq_true.1 hac i (List.mem_range.2 hlt);rw[ho]at h;have:=Array.all_eq_true_iff_forall_mem.1 h e he;simpa [hbd]using this
 refine wp_region_any hm ?_
 refine Yd hac' (fun l b w=>∃u,b=Qbm a S u/\(∀i,l i=true->i<ops.size->φ i (u i) w)/\R l u w/\(∀j,l j=false->u j=a.tmps.toList.getD (S.getD j 0) undef) /\
   (∀(j:Nat) (o:Oper),ops[j]?=some o->∀e∈o.after,Region.binds .any e=true->l e.on=false->l j=false)) ?_ ?_ ops.size _ a _ aL (by
  unfold Rk;exact ad (List.length_filter_le _ _) aL) ⟨fun i=>a.tmps.toList.getD (S.getD i 0) undef,?_,?_,?_,fun _ _=>rfl,?_⟩
 ·rintro l b w i o ho hl hpre ⟨u,rfl,hφ,hR,hi,hdn⟩;have ho':ops.toList[i]?=some o:=by simpa using ho
  have hp:=hput i o ho';have hs':=hstep i o ho';rw[am]at hs';refine wpOp_step ho fun K' hK'=>?_;refine hs' l u w hl (fun e he hb=>⟨hpre e he hb,hφ e.on (hpre e he hb) ?_⟩) hR hi hdn K' (fun v w' a' hv hrel hR' ha'=>hK' _ _ ⟨_,ha'.trans (hp u v),fun j hj hjs=>?_,hR',fun j hj=>?_,fun j o' hj e he hb hle=>?_⟩)
  ·exact jI
  ·by_cases hji:j=i
   ·subst hji;simpa using hv
   have hj':l j=true:=g7;simpa [hji]using hst w w' hrel j _ (hφ j hj' hjs)
  ·by_cases hji:j=i
   ·subst hji;simp at hj
   have hj':l j=false:=g7;simpa [hji]using hi j hj'
  have hne:e.on≠i:=by rintro rfl;simp at hle
  have hle':l e.on=false:=by simpa [hne]using hle
  have hlj:=hdn j o' hj e he hb hle';have hji:j≠i:=by
   rintro rfl;rw[ho]at hj;injection hj with hj;subst hj;rw[hpre e he hb]at hle';cases hle'
  simpa [hji]using hlj
 ·rintro l b w hl ⟨u,rfl,hφ,hR,_,_⟩;exact hdone l u w hl (fun i hi=>hφ i (hl i hi) hi) hR
 ·exact jW
 ·intro i hi;simp[Array.getD]at hi
 ·have e:(fun j=>(Array.replicate ops.size false).getD j false)=fun _=>false:=by
   funext j
   simp[Array.getD]
  rw[e];exact h0
 intro j o hj e he hb _;simp[Array.getD]
end
theorem Ax{ops:Array Oper}{l:Nat->Bool}(h:∀(j:Nat) (o:Oper),ops[j]?=some o->∀e∈o.after,Region.binds .any e=true->l e.on=false->l j=false)(j i:Nat)(hc:((ops[j]?).map fun o=>o.after.toList.any fun e=>decide (e.on=i) && Region.binds .any e)=some true)(hi:l i=false):l j=false:=by
 cases ho:ops[j]? with
 |none=>rw[ho]at hc;cases hc
 |some o=>
  rw[ho]at hc;have hc:(o.after.toList.any fun e=>decide (e.on=i) && Region.binds .any e)=true:=by injection hc
  obtain⟨e,he,h2⟩:=List.any_eq_true.1 hc;rw[aw,decide_eq_true_iff]at h2;obtain⟨rfl,h3⟩:=h2;exact h j o ho e d9 h3 hi
theorem rgE{P:Program}{ops:Array Oper}{Q:Exit->Act->World->Prop}{id:Nat}{a:Act}{w:World}(S:List Nat){mk:(Nat->Value)->Act}
  (φ:Nat->Value->World->Prop) (R:(Nat->Bool)->(Nat->Value)->World->Prop)
  (h0:R (fun _=>false) (fun i=>a.tmps.toList.getD (S.getD i 0) undef) w.drew)
  (hstep:Ah (fun i o=>∀(l:Nat->Bool) u w,l i=false->(∀e∈o.after,Region.binds .any e=true->l e.on=true/\φ e.on (u e.on) w)->R l u w ->
   (∀j,l j=false->u j=a.tmps.toList.getD (S.getD j 0) undef)->(∀(j:Nat) (o:Oper),ops[j]?=some o->∀e∈o.after,Region.binds .any e=true->l e.on=false->l j=false) ->
   ∀K:Act->World->Prop,(∀v w' a',φ i v w'->True->R (fun j=>if j=i then true else l j) (fun j=>if j=i then v else u j) w'->a'=(mk u).put o.dst v->K a' w') ->
    if Region.wanted o (yielded ops (mk u).tmps)=true then Oper.wp P o (mk u) w K Q else K ((mk u).put o.dst undef) w) 0 ops.toList)
  (hdone:∀(l:Nat->Bool) u w,(∀i,i<ops.size->l i=true)->(∀i,i<ops.size->φ i (u i) w)->R l u w->Q .normal (mk u) w)
  (hc:(P.follows .mixedOrders && (List.range ops.size).all (fun i=>((ops[i]?).map fun o=>o.after.all fun e=>!Region.binds .any e || decide (e.on<i)).getD true) && J3 a.tmps.size ops.toList S)=true:=by kernel_rfl) (hst:∀w w':World,True->∀i v,φ i v w->φ i v w':=by exact fun _ _ _ _ _ h=>h) (hmk:∀u,Qbm a S u=mk u:=by intro u;dsimp only[Qbm,Bm,List.set,am,Nat.reduceAdd]):(Code.region id ops true).wp P Q a w:=
 have h1:=Bool.and_eq_true_iff.1 hc;have h2:=Bool.and_eq_true_iff.1 h1.1;Bi S h2.1 h2.2 h1.2 hmk φ R (fun _ _=>True) hst h0 hstep hdone
theorem Ge{P:Program}{ops:Array Oper}{Q:Exit->Act->World->Prop}{id:Nat}{a:Act}{w:World}(S:List Nat){mk:(Nat->Value)->Act}
  (φ:Nat->Value->World->Prop) (R:(Nat->Bool)->(Nat->Value)->World->Prop)
  (h0:R (fun _=>false) (fun i=>a.tmps.toList.getD (S.getD i 0) undef) w.drew)
  (hstep:Ah (fun i o=>∀(l:Nat->Bool) u w,l i=false->(∀e∈o.after,Region.binds .any e=true->l e.on=true/\φ e.on (u e.on) w)->Hid (R l u w)->Hid (∀(j:Nat) (o:Oper),ops[j]?=some o->∀e∈o.after,Region.binds .any e=true->l e.on=false->l j=false) ->
   ∀K:Act->World->Prop,(∀v w' a',φ i v w'->True->R (fun j=>if j=i then true else l j) (fun j=>if j=i then v else u j) w'->a'=(mk u).put o.dst v->K a' w') ->
    if Region.wanted o (yielded ops (mk u).tmps)=true then Oper.wp P o (mk u) w K Q else K ((mk u).put o.dst undef) w) 0 ops.toList)
  (hdone:∀(l:Nat->Bool) u w,(∀i,i<ops.size->l i=true)->(∀i,i<ops.size->φ i (u i) w)->R l u w->Q .normal (mk u) w)
  (hc:(P.follows .mixedOrders && (List.range ops.size).all (fun i=>((ops[i]?).map fun o=>o.after.all fun e=>!Region.binds .any e || decide (e.on<i)).getD true) && J3 a.tmps.size ops.toList S)=true:=by kernel_rfl) (hst:∀w w':World,True->∀i v,φ i v w->φ i v w':=by exact fun _ _ _ _ _ h=>h) (hmk:∀u,Qbm a S u=mk u:=by intro u;dsimp only[Qbm,Bm,List.set,am,Nat.reduceAdd]):(Code.region id ops true).wp P Q a w:=
 have h1:=Bool.and_eq_true_iff.1 hc;have h2:=Bool.and_eq_true_iff.1 h1.1;Bi S h2.1 h2.2 h1.2 hmk φ R (fun _ _=>True) hst h0 (fun i o ho l u w h1 h2 hR _ hd=>hstep i o ho l u w h1 h2 hR hd) hdone
theorem Jx{a b:Bool}(h:a=false->b=false)(l:b=true):a=true:=by
 cases a with
 |true=>rfl
 |false=>rw[h rfl]at l;cases l
theorem Tryz.sizeBuilder:(prog.info? 131).map (·.size)=some 2:=aO
theorem Tryz.liesBuilder:liesAt prog prog.depth 131 (2 / prog.cellsOf 131) 0 131 1=true:=aO
theorem Tryz.cellsByte:prog.cellsOf 5=1:=aO
abbrev Cv:=Cf × Cf
def S7(S T:List Ty)(K:Kd->Kd->List Cv->Bool × List Cv)(t:Ty)(st:UInt8):List Fd->List Cv->Bool × List Cv
 |[],m=>(true,m)
 |g::gs,m=>match Au t.fields g.tag with
  |none=>if st=82 then S7 S T K t st gs m else(false,m)
  |some f=>if st=69 then S7 S T K t st gs m else
    if (K f.kind g.kind m).1=false then(false,(K f.kind g.kind m).2)
    else if st=82/\Jp S f≠Jp T g then(false,(K f.kind g.kind m).2)
    else S7 S T K t st gs (K f.kind g.kind m).2
def Yb(S T:List Ty)(K:Kd->Kd->List Cv->Bool × List Cv)(t u:Ty)(m:List Cv):Bool × List Cv:=
 if t.sort≠u.sort then(false,m)else S7 S T K t u.sort u.fields m
def Pm(S T:List Ty):Nat->Kd->Kd->List Cv->Bool × List Cv
 |0,_,_,m=>(true,m)
 |n+1,a,b,m=>
  if a.signs≠b.signs\/a.base≠b.base then(false,m)
  else if a.base≠[64]then(true,m)
  else match Bp S a.name,Bp T b.name with
   |some t,some u=>if (a.name,b.name)∈m then(true,m)else Yb S T (Pm S T n) t u (m++[(a.name,b.name)])
   |_,_=>(false,m)
def Jt(S T:List Ty)(m:List Cv):Prop:=m.Nodup/\∀p∈m,p.1∈E8 S/\p.2∈E8 T
theorem Jt.nil(S T:List Ty):Jt S T []:=⟨List.nodup_nil,by simp⟩
theorem Jt.snoc{S T:List Ty}{m:List Cv}{a b:Cf}(h:Jt S T m)(ha:a∈E8 S)(hb:b∈E8 T)(hn:(a,b)∉m):Jt S T (m++[(a,b)]):=by
 refine⟨?_,?_⟩
 ·rw[List.nodup_append];refine⟨h.1,by simp,?_⟩;intro x hx y hy;simp only[aq]at hy;subst hy;rintro rfl;exact hn hx
 intro p hp;rcases af.1 hp with hp|hp
 ·exact h.2 p hp
 simp only[aq]at hp;subst hp;exact⟨ha,hb⟩
theorem Zx:∀(l m:List Cv),l.Nodup->(∀x∈l,x∈m)->l.length<=m.length
 |[],m,_,_=>aL
 |x::l,m,hn,hs=>by
  have hx:=hs x aL;have:=Zx l (m.erase x) (List.nodup_cons.1 hn).2 (fun y hy=>(List.mem_erase_of_ne (by rintro rfl;exact(List.nodup_cons.1 hn).1 hy)).2 (hs y gh));rw[List.length_erase_of_mem hx]at this;have:=List.length_pos_of_mem hx;simp only[List.length_cons];omega
def Qax(a b:List Cf):List Cv:=a.flatMap fun x=>b.map fun y=>(x,y)
theorem Xz(b:List Cf):∀a,(Qax a b).length=a.length*b.length
 |[]=>by simp[Qax]
 |x::a=>by
  have:=Xz b a;unfold Qax at this ⊢;rw[List.flatMap_cons,ah,List.length_map,this,List.length_cons,Nat.add_mul];omega
theorem Jt.len{S T:List Ty}{m:List Cv}(h:Jt S T m):m.length<=S.length*T.length:=by
 have:=Zx m (Qax (E8 S) (E8 T)) h.1 (fun x hx=>by
  obtain⟨a,b⟩:=x;have:=h.2 _ hx;unfold Qax;rw[List.mem_flatMap];exact⟨a,this.1,ax.2 ⟨b,this.2,rfl⟩⟩)
 rw[Xz]at this;simpa [E8]using this
def Qgu(S T:List Ty)(K:Kd->Kd->List Cv->Bool × List Cv):Prop:=∀a b m,Jt S T m->Jt S T (K a b m).2/\∃l,(K a b m).2=m++l
theorem Kb{S T:List Ty}{K:Kd->Kd->List Cv->Bool × List Cv}(hK:Qgu S T K)(t:Ty)(st:UInt8):∀(gs:List Fd) (m:List Cv),Jt S T m->Jt S T (S7 S T K t st gs m).2/\∃l,(S7 S T K t st gs m).2=m++l
 |[],m,h=>⟨h,[],by simp[S7]⟩
 |g::gs,m,h=>by
  unfold S7;cases Au t.fields g.tag with
  |none=>
   simp only;split
   ·exact Kb hK t st gs m h
   exact⟨h,[],by simp⟩
  |some f=>
   simp only;split
   ·exact Kb hK t st gs m h
   obtain⟨h1,l1,e1⟩:=hK f.kind g.kind m h;split
   ·exact⟨h1,l1,e1⟩
   split
   ·exact⟨h1,l1,e1⟩
   obtain⟨h2,l2,e2⟩:=Kb hK t st gs _ h1;exact⟨h2,l1++l2,by rw[e2,e1,List.append_assoc]⟩
theorem Ms(S T:List Ty):∀n,Qgu S T (Pm S T n)
 |0=>fun a b m h=>⟨h,[],by simp[Pm]⟩
 |n+1=>fun a b m h=>by
  unfold Pm;split
  ·exact⟨h,[],by simp⟩
  split
  ·exact⟨h,[],by simp⟩
  cases hs:Bp S a.name with
  |none=>exact⟨h,[],by simp⟩
  |some t=>cases ht:Bp T b.name with
   |none=>exact⟨h,[],by simp⟩
   |some u=>
    simp only;split
    ·exact⟨h,[],by simp⟩
    rename_i hn;have h1:=h.snoc (Fa.1 (by rw[hs];rfl)) (Fa.1 (by rw[ht];rfl)) hn;unfold Yb;split
    ·exact⟨h1,_,rfl⟩
    obtain⟨h2,l2,e2⟩:=Kb (Ms S T n) t u.sort u.fields _ h1;exact⟨h2,[(a.name,b.name)]++l2,by rw[e2];simp⟩
def Jv(S T:List Ty)(a b:Kd):Bool:=(Pm S T 65 a b []).1
def Eu(x y:Option (List Ty × Kd)):Bool:=match x,y with
 |some (S,a),some (T,b)=>Jv S T a b
 |_,_=>false
theorem Qjq{S:List Ty}{K:Kd->Kd->List Cv->Bool × List Cv}{t:Ty}(hd:t.fields.Pairwise fun g f=>g.name≠f.name/\g.tag<f.tag)(hK:∀f∈t.fields,∀m,t.sort≠69->(K f.kind f.kind m).1=true):
  ∀(gs:List Fd),(∀g∈gs,g∈t.fields)->∀m,(S7 S S K t t.sort gs m).1=true
 |[],_,m=>rfl
 |g::gs,hg,m=>by
  have hgm:=hg g aL;have hf:Au t.fields g.tag=some g:=by
   cases h:Au t.fields g.tag with
   |none=>
    have:=List.find?_eq_none.1 h g hgm;simp at this
   |some f=>
    have hm:=List.mem_of_find?_eq_some h;have ht:=List.find?_some h;simp only[decide_eq_true_eq]at ht;obtain⟨i,hi,rfl⟩:=List.mem_iff_getElem.1 hm;obtain⟨j,hj,rfl⟩:=List.mem_iff_getElem.1 hgm;rw[List.pairwise_iff_getElem]at hd;rcases Nat.lt_trichotomy i j with hij|hij|hij
    ·have:=(hd i j hi hj hij).2;omega
    ·subst hij;rfl
    have:=(hd j i hj hi hij).2;omega
  unfold S7;rw[hf];simp only;have ih:=Qjq (S:=S) hd hK gs (fun x hx=>hg x (by simp[hx]));split
  ·exact ih m
  rename_i hs;rw[if_neg (by rw[hK g hgm m hs];decide),if_neg aL];exact ih _
theorem Qjr{S:List Ty}(hS:Jc S):∀(n:Nat) (k:Kd) (m:List Cv),Bx S k->(Pm S S n k k m).1=true
 |0,_,_,_=>rfl
 |n+1,k,m,hr=>by
  unfold Pm;rw[if_neg aL];split
  ·rfl
  rename_i hb;have hb':k.base=[64]:=by simpa using hb
  have h1:=hr hb';cases h:Bp S k.name with
  |none=>rw[h]at h1;cases h1
  |some t=>
   simp only;split
   ·rfl
   have htm:=(Cu h).1;have hto:=hS.1.1 t htm;unfold Yb;rw[if_neg aL];exact Qjq hto.2.2.1.2 (fun f hf m' hs=>Qjr hS n f.kind m' (hS.2.1 t htm hs f hf)) t.fields (fun _ h=>h) _
theorem Qjs{S:List Ty}(hS:Jc S){k:Kd}(hr:Bx S k):Jv S S k k=true:=Qjr hS 65 k [] hr
def Py(R:Cf->Cf->Prop)(a b:Kd):Prop:=a.signs=b.signs/\a.base=b.base/\(a.base=[64]->R a.name b.name)
def M7(S T:List Ty)(R:Cf->Cf->Prop)(t:Ty)(st:UInt8)(g:Fd):Prop:=
 match Au t.fields g.tag with
 |none=>st=82
 |some f=>st=69\/(Py R f.kind g.kind/\(st=82->Jp S f=Jp T g))
def Tr(S T:List Ty)(R:Cf->Cf->Prop)(a b:Cf):Prop:=∃t u,Bp S a=some t/\Bp T b=some u/\t.sort=u.sort/\∀g∈u.fields,M7 S T R t u.sort g
def Xu(S T:List Ty)(R:Cf->Cf->Prop):Prop:=∀a b,R a b->Tr S T R a b
abbrev inM(m:List Cv)(a b:Cf):Prop:=(a,b)∈m
theorem Py.mono{R Q:Cf->Cf->Prop}(h:∀a b,R a b->Q a b){a b:Kd}(hk:Py R a b):Py Q a b:=⟨hk.1,hk.2.1,fun e=>h _ _ (hk.2.2 e)⟩
theorem M7.mono{S T:List Ty}{R Q:Cf->Cf->Prop}(h:∀a b,R a b->Q a b){t:Ty}{st:UInt8}{g:Fd}(hk:M7 S T R t st g):M7 S T Q t st g:=by
 unfold M7 at hk ⊢;cases hf:Au t.fields g.tag with
 |none=>rw[hf]at hk;exact hk
 |some f=>
  rw[hf]at hk;rcases hk with hk|⟨x,y⟩
  ·exact .inl hk
  exact .inr ⟨x.mono h,y⟩
theorem Tr.mono{S T:List Ty}{R Q:Cf->Cf->Prop}(h:∀a b,R a b->Q a b){a b:Cf}(hk:Tr S T R a b):Tr S T Q a b:=by
 obtain⟨t,u,e1,e2,e3,e4⟩:=hk;exact⟨t,u,e1,e2,e3,fun g hg=>(e4 g hg).mono h⟩
def Xw(S T:List Ty)(m m':List Cv):Prop:=∀a b,(a,b)∈m'->(a,b)∉m->Tr S T (inM m') a b
theorem Xw.trans{S T:List Ty}{m1 m2 m3:List Cv}(h1:Xw S T m1 m2)(h2:Xw S T m2 m3)(hs:∀p∈m2,p∈m3):Xw S T m1 m3:=by
 intro a b h3 hn;by_cases h:(a,b)∈m2
 ·exact(h1 a b h hn).mono fun x y hxy=>hs _ hxy
 exact h2 a b h3 h
def Qh0(S T:List Ty)(n:Nat)(K:Kd->Kd->List Cv->Bool × List Cv):Prop:=
 ∀a b m,Jt S T m->64<n+m.length->(K a b m).1=true->Py (inM (K a b m).2) a b/\Xw S T m (K a b m).2
theorem Pu{S T:List Ty}{n:Nat}{K:Kd->Kd->List Cv->Bool × List Cv}(hg:Qgu S T K)(hK:Qh0 S T n K)(t:Ty)(st:UInt8):
  ∀(gs:List Fd) (m:List Cv),Jt S T m->64<n+m.length->(S7 S T K t st gs m).1=true->(∀g∈gs,M7 S T (inM (S7 S T K t st gs m).2) t st g)/\Xw S T m (S7 S T K t st gs m).2
 |[],m,_,_,_=>⟨by simp,fun a b h hn=>absurd h hn⟩
 |g::gs,m,hm,hn,h=>by
  unfold S7 at h ⊢;cases hf:Au t.fields g.tag with
  |none=>
   rw[hf]at h;simp only at h ⊢;split at h
   ·rename_i h82;rw[if_pos h82];obtain⟨i1,i2⟩:=Pu hg hK t st gs m hm hn h;refine⟨fun x hx=>?_,i2⟩;rcases aA.1 hx with rfl|hx
    ·unfold M7;rw[hf];exact h82
    exact i1 x hx
   cases h
  |some f=>
   rw[hf]at h;simp only at h ⊢;split at h
   ·rename_i h69;rw[if_pos h69];obtain⟨i1,i2⟩:=Pu hg hK t st gs m hm hn h;refine⟨fun x hx=>?_,i2⟩;rcases aA.1 hx with rfl|hx
    ·unfold M7;rw[hf];exact .inl h69
    exact i1 x hx
   rename_i h69;rw[if_neg h69];split at h
   ·cases h
   rename_i hk1;rw[if_neg hk1];split at h
   ·cases h
   rename_i hk2;rw[if_neg hk2];have hk1':(K f.kind g.kind m).1=true:=by simpa using hk1
   obtain⟨k1,k2⟩:=hK _ _ m hm hn hk1';obtain⟨g1,l,g2⟩:=hg f.kind g.kind m hm;have hn2:64<n+(K f.kind g.kind m).2.length:=by rw[g2,ah];omega
   obtain⟨i1,i2⟩:=Pu hg hK t st gs _ g1 hn2 h;obtain⟨j1,l2,j2⟩:=Kb hg t st gs _ g1;have hsub:∀p∈(K f.kind g.kind m).2,p∈(S7 S T K t st gs (K f.kind g.kind m).2).2:=fun p hp=>by rw[j2];simp[hp]
   refine⟨fun x hx=>?_,k2.trans i2 hsub⟩;rcases aA.1 hx with rfl|hx
   ·unfold M7;rw[hf];exact .inr ⟨k1.mono fun a b hab=>hsub _ hab,fun h82=>Decidable.byContradiction fun hne=>hk2 ⟨h82,hne⟩⟩
   exact i1 x hx
theorem X7{S T:List Ty}(hS:S.length<=8)(hT:T.length<=8):∀n,Qh0 S T n (Pm S T n)
 |0=>fun a b m hm hn h=>by
  have:=hm.len;have:S.length*T.length<=8*8:=Nat.mul_le_mul hS hT;omega
 |n+1=>fun a b m hm hn h=>by
  unfold Pm at h ⊢;split at h
  ·cases h
  rename_i hsb;rw[if_neg hsb];have hs1:a.signs=b.signs:=Decidable.byContradiction fun hh=>hsb (.inl hh);have hs2:a.base=b.base:=Decidable.byContradiction fun hh=>hsb (.inr hh);split at h
  ·rename_i hb;rw[if_pos hb];exact⟨⟨hs1,hs2,fun e=>absurd e hb⟩,fun a b h hn=>absurd h hn⟩
  rename_i hb;rw[if_neg hb];cases h1:Bp S a.name with
  |none=>rw[h1]at h;cases h
  |some t=>cases h2:Bp T b.name with
   |none=>rw[h1,h2]at h;cases h
   |some u=>
    rw[h1,h2]at h;simp only at h ⊢;split at h
    ·rename_i hin;rw[if_pos hin];exact⟨⟨hs1,hs2,fun _=>hin⟩,fun a b h hn=>absurd h hn⟩
    rename_i hin;rw[if_neg hin];have hm2:=hm.snoc (Fa.1 (by rw[h1];rfl)) (Fa.1 (by rw[h2];rfl)) hin;unfold Yb at h ⊢;split at h
    ·cases h
    rename_i hso;rw[if_neg hso];obtain⟨i1,i2⟩:=Pu (Ms S T n) (X7 hS hT n) t u.sort u.fields _ hm2 aM h;obtain⟨j1,l2,j2⟩:=Kb (Ms S T n) t u.sort u.fields _ hm2;have hab:(a.name,b.name)∈(S7 S T (Pm S T n) t u.sort u.fields (m++[(a.name,b.name)])).2:=by rw[j2];simp
    refine⟨⟨hs1,hs2,fun _=>hab⟩,fun x y hxy hn2=>?_⟩;by_cases he:(x,y)=(a.name,b.name)
    ·injection he with e1 e2;subst e1;subst e2;exact⟨t,u,h1,h2,by simpa using hso,i1⟩
    exact i2 x y hxy (by simp only[af,aq,not_or];exact⟨hn2,he⟩)
theorem Qv{S T:List Ty}(hS:S.length<=8)(hT:T.length<=8){a b:Kd}(h:Jv S T a b=true):∃R,Xu S T R/\Py R a b:=by
 obtain⟨h1,h2⟩:=X7 hS hT 65 a b [] (Jt.nil S T) aL h;exact⟨_,fun x y hxy=>h2 x y hxy aL,h1⟩
def V8(ρ:Cf->Cf)(k:Kd):Kd:=if k.base=[64]then {k with name:=ρ k.name} else k
def S4(ρ:Cf->Cf)(st:UInt8)(f:Fd):Fd:=if st=69 then f else {f with kind:=V8 ρ f.kind}
def Yx(ρ:Cf->Cf)(t:Ty):Ty:={t with name:=ρ t.name,fields:=t.fields.map (S4 ρ t.sort)}
theorem Tl(ρ:Cf->Cf)(k:Kd):(V8 ρ k).signs=k.signs:=by unfold V8;split<;>rfl
theorem Qim(ρ:Cf->Cf)(k:Kd):(V8 ρ k).base=k.base:=by unfold V8;split<;>rfl
theorem M3{ρ:Cf->Cf}{k:Kd}(h:k.base=[64]):(V8 ρ k).name=ρ k.name:=by unfold V8;rw[if_pos h]
theorem Qgg(ρ:Cf->Cf)(st:UInt8)(f:Fd):(S4 ρ st f).tag=f.tag:=by unfold S4;split<;>rfl
theorem Qcd(ρ:Cf->Cf)(st:UInt8)(f:Fd):(S4 ρ st f).given=f.given:=by unfold S4;split<;>rfl
theorem Pt{ρ:Cf->Cf}{st:UInt8}(h:st≠69)(f:Fd):(S4 ρ st f).kind=V8 ρ f.kind:=by unfold S4;rw[if_neg h]
def inN(ns:List Cf)(k:Kd):Prop:=k.base=[64]->k.name∈ns
structure Ren(S T:List Ty)(ns:List Cf)(ρ:Cf->Cf):Prop where
 get:∀n∈ns,∃t,Bp S n=some t/\Bp T (ρ n)=some (Yx ρ t)/\Ep t/\(t.sort≠69->∀f∈t.fields,inN ns f.kind)
 inj:∀a∈ns,∀b∈ns,ρ a=ρ b->a=b
theorem Ren.met{S T:List Ty}{ns:List Cf}{ρ:Cf->Cf}(h:Ren S T ns ρ):∀(n:Nat) (k:Kd) (out:List Cf),inN ns k->(∀x∈out,x∈ns) ->
  Rv T n (V8 ρ k) (out.map ρ)=(Rv S n k out).map ρ/\∀x∈Rv S n k out,x∈ns
 |0,k,out,_,ho=>⟨rfl,ho⟩
 |n+1,k,out,hk,ho=>by
  by_cases hb:k.base=[64]
  ·have hkn:=hk hb;have hmem:ρ k.name∈out.map ρ↔k.name∈out:=by
    rw[ax];exact⟨fun⟨y,hy,e⟩=>by rw[<-h.inj y (ho y hy) k.name hkn e];exact hy,fun hy=>⟨_,hy,rfl⟩⟩
   by_cases hin:k.name∈out
   ·rw[Rv,Rv,if_neg (by rw[M3 hb];exact fun hh=>hh.2 (hmem.2 hin)),if_neg (fun hh=>hh.2 hin)];exact⟨rfl,ho⟩
   obtain⟨t,e1,e2,e3,e4⟩:=h.get _ hkn;have ho2:∀x∈out++[k.name],x∈ns:=fun x hx=>by
    rcases af.1 hx with hx|hx
    ·exact ho x hx
    simp at hx;subst hx;exact hkn
   rw[Rv,Rv,if_pos ⟨by rw[Qim];exact hb,by rw[M3 hb];exact fun hh=>hin (hmem.1 hh)⟩,if_pos ⟨hb,hin⟩,M3 hb,e1,e2];simp only;rw[show (Yx ρ t).sort=t.sort from rfl,show (Yx ρ t).fields=t.fields.map (S4 ρ t.sort)from rfl];have em:out.map ρ++[ρ k.name]=(out++[k.name]).map ρ:=aL;by_cases h69:t.sort=69
   ·rw[if_pos h69,if_pos h69];exact⟨em,ho2⟩
   rw[if_neg h69,if_neg h69,em];have key:∀(fs:List Fd),(∀f∈fs,inN ns f.kind)->∀(o:List Cf),(∀x∈o,x∈ns) ->
     (fs.map (S4 ρ t.sort)).foldl (fun o f=>Rv T n f.kind o) (o.map ρ)=(fs.foldl (fun o f=>Rv S n f.kind o) o).map ρ/\∀x∈fs.foldl (fun o f=>Rv S n f.kind o) o,x∈ns:=by
    intro fs;induction fs with
    |nil=>intro _ o ho;exact⟨rfl,ho⟩
    |cons f fs ih=>
     intro hfs o ho;obtain⟨m1,m2⟩:=h.met n f.kind o (hfs f aL) ho;simp only[ay,List.foldl_cons];rw[Pt h69,m1];exact ih (fun g hg=>hfs g (by simp[hg])) _ m2
   exact key t.fields (e4 h69) _ ho2
  rw[Rv,Rv,if_neg (fun hh=>hb (by rw[Qim]at hh;exact hh.1)),if_neg (fun hh=>hb hh.1)];exact⟨rfl,ho⟩
theorem Ren.stand{S T:List Ty}{ns:List Cf}{ρ:Cf->Cf}(h:Ren S T ns ρ):∀(n:Nat) (k:Kd),inN ns k->Zu k->C9 T n (V8 ρ k)=C9 S n k
 |0,_,_,_=>rfl
 |n+1,k,hk,hb=>by
  rw[C9,C9,Tl,Qim];split
  ·rfl
  split
  ·rfl
  split
  ·rfl
  rename_i h1;split
  ·rfl
  rename_i h2;split
  ·rfl
  rename_i h3;have hb64:k.base=[64]:=by
   rcases hb with⟨hb,_⟩|⟨hb|hb|hb,_⟩
   ·exact hb
   ·exact absurd hb h1
   ·exact absurd hb h2
   exact absurd hb h3
  obtain⟨t,e1,e2,e3,e4⟩:=h.get _ (hk hb64);rw[M3 hb64,e1,e2];simp only;rw[show (Yx ρ t).sort=t.sort from rfl,show (Yx ρ t).fields=t.fields.map (S4 ρ t.sort)from rfl];split
  ·rfl
  cases hf:t.fields with
  |nil=>rfl
  |cons f fs=>
   simp only[ay];rw[Qgg];split
   ·rfl
   rename_i h69;rw[Pt h69,h.stand n f.kind (e4 h69 f en) ((e3.2.2.1.1 f en).2.2.2.2 h69).1.2.1]
theorem Ren.of{S T:List Ty}{ns:List Cf}{ρ:Cf->Cf}(h:Ren S T ns ρ){st:UInt8}{f:Fd}(h69:st≠69)(hf:Sb st f)(hk:inN ns f.kind):Jp T (S4 ρ st f)=Jp S f:=by
 unfold Jp;rw[Qcd,Pt h69];unfold Ry;rw[h.stand 10 f.kind hk (hf.2.2.2.2 h69).1.2.1]
theorem Ren.ends{S T:List Ty}{ns:List Cf}{ρ:Cf->Cf}(h:Ren S T ns ρ):∀(n:Nat) (t:Ty),(t.sort≠69->∀f∈t.fields,inN ns f.kind)->Bv T n (Yx ρ t)=Bv S n t
 |0,_,_=>rfl
 |n+1,t,ht=>by
  unfold Bv;by_cases h85:t.sort=85
  ·have h69:t.sort≠69:=ee;unfold Ff;rw[show (Yx ρ t).sort=t.sort from rfl,show (Yx ρ t).fields=t.fields.map (S4 ρ t.sort)from rfl,if_pos h85,if_pos h85];cases hf:t.fields with
   |nil=>rfl
   |cons f fs=>
    simp only[ay];rw[Pt h69,Tl,Qim];by_cases hc:f.kind.signs=[]/\f.kind.base=[64]
    ·rw[if_pos hc,if_pos hc,M3 hc.2];obtain⟨u,e1,e2,e3,e4⟩:=h.get _ (ht h69 f en hc.2);rw[e1,e2];exact h.ends n u e4
    rw[if_neg hc,if_neg hc]
  have e1:Ff T (Yx ρ t)=none:=if_neg h85;have e2:Ff S t=none:=if_neg h85;rw[e1,e2]
def Qhq(v:Vl):Vl:=v.kids.headD v
def Mz(S:List Ty)(K:Kd->Vl->Vl × Bool)(fs:List Fd)(y:Vl):List Vl × Bool:=match Au fs y.tag with
 |none=>([],true)
 |some f=>if Bc (K f.kind (Qhq y)).1=Jp S f then([],true)else([.mk 61 [] y.tag [(K f.kind (Qhq y)).1]],(K f.kind (Qhq y)).2)
def Cz(S:List Ty):Nat->Kd->Vl->Vl × Bool
 |0,_,v=>(v,false)
 |d+1,a,v=>
  if a.signs≠[]then(.mk v.what v.text v.tag (v.kids.map fun x=>(Cz S d a.part x).1),v.kids.any fun x=>(Cz S d a.part x).2)
  else if a.base≠[64]then(v,false)
  else match Bp S a.name with
   |none=>(v,false)
   |some t=>
    if v.what=85 then(match Au t.fields v.tag with
     |none=>(v,false)
     |some f=>(.mk v.what v.text v.tag (v.kids.map fun x=>(Cz S d f.kind x).1),v.kids.any fun x=>(Cz S d f.kind x).2))
    else if v.what=82 then(.mk v.what v.text v.tag (v.kids.flatMap fun y=>(Mz S (Cz S d) t.fields y).1),v.kids.any fun y=>(Mz S (Cz S d) t.fields y).2)
    else(v,false)
theorem Da(S:List Ty)(d:Nat)(a:Kd)(w:UInt8)(tx:List UInt8)(tg:Nat)(ks:List Vl):Cz S (d+1) a (.mk w tx tg ks) =
  if a.signs≠[]then(.mk w tx tg (ks.map fun x=>(Cz S d a.part x).1),ks.any fun x=>(Cz S d a.part x).2)
  else if a.base≠[64]then(.mk w tx tg ks,false)
  else match Bp S a.name with
   |none=>(.mk w tx tg ks,false)
   |some t=>
    if w=85 then(match Au t.fields tg with
     |none=>(.mk w tx tg ks,false)
     |some f=>(.mk w tx tg (ks.map fun x=>(Cz S d f.kind x).1),ks.any fun x=>(Cz S d f.kind x).2))
    else if w=82 then(.mk w tx tg (ks.flatMap fun y=>(Mz S (Cz S d) t.fields y).1),ks.any fun y=>(Mz S (Cz S d) t.fields y).2)
    else(.mk w tx tg ks,false):=rfl
def LOk(v:Vl)(r:Vl × Bool):Prop:=(r.2=false->r.1=v)/\(r.2=true->(Bc r.1).length<(Bc v).length)
theorem LOk.le{v:Vl}{r:Vl × Bool}(h:LOk v r):(Bc r.1).length<=(Bc v).length:=by
 cases e:r.2 with
 |false=>rw[h.1 e];exact Ap _
 |true=>exact Nat.le_of_lt (h.2 e)
theorem LOk.same(v:Vl):LOk v (v,false):=⟨fun _=>rfl,fun h=>Bool.noConfusion h⟩
def Dc(ps:List (List UInt8)):Nat:=(ps.map fun p=>p.length+1).sum
theorem D7(p:List UInt8)(ps:List (List UInt8)):Dc (p::ps)=p.length+1+Dc ps:=dG
theorem Bu(c:UInt8):∀ps:List (List UInt8),(Av c ps).length=Dc ps - 1
 |[]=>rfl
 |[p]=>by simp[Av,Dc]
 |p::q::ps=>by
  rw[Qdt c p aL,ah,List.length_cons,Bu c (q::ps),D7 p,D7 q];omega
theorem Qhd{K:Vl->Vl × Bool}{ks:List Vl}(h:∀x∈ks,LOk x (K x)):
  ((ks.any fun x=>(K x).2)=false->(ks.map fun x=>(K x).1)=ks)/\Dc ((ks.map fun x=>(K x).1).map Bc)<=Dc (ks.map Bc)/\((ks.any fun x=>(K x).2)=true->Dc ((ks.map fun x=>(K x).1).map Bc)<Dc (ks.map Bc)):=by
 induction ks with
 |nil=>exact⟨fun _=>rfl,Ap _,fun h=>by simp at h⟩
 |cons x ks ih=>
  obtain⟨i1,i2,i3⟩:=ih fun y hy=>h y gh;have hx:=h x aL;have hl:=hx.le;simp only[ay,D7,List.any_cons,Bool.or_eq_false_iff,Bool.or_eq_true];refine⟨fun e=>by rw[hx.1 e.1,i1 e.2],by omega,fun e=>?_⟩;rcases e with e|e
  ·have:=hx.2 e;omega
  have:=i3 e;omega
theorem Ki(w:UInt8)(tx:List UInt8)(tg:Nat)(ks:List Vl):Bc (.mk w tx tg ks)=Gs w tx tg (ks.map Bc):=by rw[Bc,Q8]
theorem Jz(p:Fd × Vl):(Bc (De p)).length=(Bb p.1.tag).length+1+(Bc p.2).length:=by simp[De,Bc,Dz,Gs,Av];omega
theorem Qs{fs:List Fd}{n:Nat}{f:Fd}(h:Au fs n=some f):f∈fs/\f.tag=n:=⟨(As h).2,(As h).1⟩
def Nk(S:List Ty)(K:Kd->Vl->Vl × Bool)(fs:List Fd)(p:Fd × Vl):Option (Fd × Vl):=match Au fs p.1.tag with
 |none=>none
 |some f=>if Bc (K f.kind p.2).1=Jp S f then none else some (f,(K f.kind p.2).1)
theorem Qhi(S:List Ty)(K:Kd->Vl->Vl × Bool)(fs:List Fd)(p:Fd × Vl):(Mz S K fs (De p)).1=((Nk S K fs p).map De).toList:=by
 unfold Mz Nk;have e1:(De p).tag=p.1.tag:=rfl;have e2:Qhq (De p)=p.2:=rfl;rw[e1,e2];cases h:Au fs p.1.tag with
 |none=>rfl
 |some f=>
  simp only;split
  ·rfl
  simp[De,(As h).1]
theorem Xs(S:List Ty)(K:Kd->Vl->Vl × Bool)(fs:List Fd)(ps:List (Fd × Vl)):((ps.map De).flatMap fun y=>(Mz S K fs y).1)=(ps.filterMap (Nk S K fs)).map De:=by
 induction ps with
 |nil=>rfl
 |cons p ps ih=>
  rw[ay,List.flatMap_cons,ih,Qhi,List.filterMap_cons];cases Nk S K fs p<;>rfl
theorem Ka{S:List Ty}{K:Kd->Vl->Vl × Bool}{fs:List Fd}{p q:Fd × Vl}(h:Nk S K fs p=some q):Au fs q.1.tag=some q.1/\q.1.tag=p.1.tag/\q.2=(K q.1.kind p.2).1/\Bc q.2≠Jp S q.1:=by
 unfold Nk at h;cases hf:Au fs p.1.tag with
 |none=>rw[hf]at h;cases h
 |some f=>
  rw[hf]at h;simp only at h;split at h
  ·cases h
  rename_i hn;injection h with h;subst h;have e:=(As hf).1;exact⟨by rw[e];exact hf,e,rfl,hn⟩
theorem Qha{S:List Ty}{K:Kd->Vl->Vl × Bool}{fs:List Fd}{ps:List (Fd × Vl)}(h:∀p∈ps,∀f,Au fs p.1.tag=some f->LOk p.2 (K f.kind p.2)):
  (((ps.map De).any fun y=>(Mz S K fs y).2)=false->(ps.filterMap (Nk S K fs)).map De=ps.map De)/\Dc ((ps.filterMap (Nk S K fs)).map fun p=>Bc (De p))<=Dc (ps.map fun p=>Bc (De p)) /\
   (((ps.map De).any fun y=>(Mz S K fs y).2)=true->Dc ((ps.filterMap (Nk S K fs)).map fun p=>Bc (De p))<Dc (ps.map fun p=>Bc (De p))/\2<=Dc (ps.map fun p=>Bc (De p))):=by
 induction ps with
 |nil=>exact⟨fun _=>rfl,Ap _,fun h=>by simp at h⟩
 |cons p ps ih=>
  obtain⟨i1,i2,i3⟩:=ih fun q hq=>h q (by simp[hq]);have hx:=h p aL;have hlen:=Jz p;have eP:Nk S K fs p=match Au fs p.1.tag with|none=>none|some f=>if Bc (K f.kind p.2).1=Jp S f then none else some (f,(K f.kind p.2).1):=rfl
  have e1:Mz S K fs (De p)=match Au fs p.1.tag with|none=>([],true)|some f=>if Bc (K f.kind p.2).1=Jp S f then([],true)else([.mk 61 [] p.1.tag [(K f.kind p.2).1]],(K f.kind p.2).2):=rfl
  simp only[ay,D7,List.any_cons,Bool.or_eq_false_iff,Bool.or_eq_true,List.filterMap_cons];cases hf:Au fs p.1.tag with
  |none=>
   simp only[hf]at eP e1;rw[eP,e1];simp only;exact⟨fun e=>Bool.noConfusion e.1,by omega,fun _=>⟨by omega,by omega⟩⟩
  |some f=>
   have hk:=hx f hf;have hl:=hk.le;have et:=(As hf).1;simp only[hf]at eP e1;by_cases hc:Bc (K f.kind p.2).1=Jp S f
   ·rw[if_pos hc]at eP e1;rw[eP,e1];simp only;exact⟨fun e=>Bool.noConfusion e.1,by omega,fun _=>⟨by omega,by omega⟩⟩
   rw[if_neg hc]at eP e1;rw[eP,e1];simp only[ay,D7];have hl2:(Bc (De (f,(K f.kind p.2).1))).length=(Bb p.1.tag).length+1+(Bc (K f.kind p.2).1).length:=by rw[Jz];simp only;rw[et]
   refine⟨fun e=>?_,by omega,fun e=>⟨?_,by omega⟩⟩
   ·rw[i1 e.2,hk.1 e.1];congr 1
    show Vl.mk 61 [] f.tag [p.2]=.mk 61 [] p.1.tag [p.2];rw[et]
   rcases e with e|e
   ·have:=hk.2 e;omega
   have:=(i3 e).1;omega
theorem Jm{R:Cf->Cf->Prop}{a b:Kd}(h:Py R a b):Py R a.part b.part:=⟨by show a.signs.tail=b.signs.tail;rw[h.1],h.2⟩
theorem Tj{S T:List Ty}{R:Cf->Cf->Prop}(hR:Xu S T R):∀(d:Nat) (a b:Kd) (v:Vl),Py R a b->Nn T d b v->Nn S d a (Cz S d a v).1/\LOk v (Cz S d a v):=by
 intro d;induction d with
 |zero=>intro a b v _ h;cases h
 |succ d ih=>
  intro a b v hk h;obtain⟨k1,k2,k3⟩:=hk;cases h with
  |@n _ _ m hs hb h=>
   rw[Da,if_neg bC,if_pos ck];exact⟨.n (k1.trans hs) (k2.trans hb) h,LOk.same _⟩
  |@t _ _ s hs hb h=>
   rw[Da,if_neg bC,if_pos ck];exact⟨.t (k1.trans hs) (k2.trans hb) h,LOk.same _⟩
  |@f _ _ x hs hb=>
   rw[Da,if_neg bC,if_pos ck];exact⟨.f (k1.trans hs) (k2.trans hb),LOk.same _⟩
  |@lst _ _ r ks hs hl h=>
   rw[Da,if_pos bC];have hi:=fun x hx=>ih a.part b.part x (Jm ⟨k1,k2,k3⟩) (h x hx);obtain⟨m1,m2,m3⟩:=Qhd (K:=Cz S d a.part) (ks:=ks) fun x hx=>(hi x hx).2;refine⟨.lst (k1.trans hs) fL ?_,?_,?_⟩
   ·intro x hx;obtain⟨y,hy,rfl⟩:=ax.1 hx;exact(hi y hy).1
   ·intro e;exact congrArg (Vl.mk 91 [] 0) (m1 e)
   intro e;have:=m3 e;simp only[Ki]at this ⊢;simp[Gs,Bu];simp at this;have h0:ks≠[]:=by rintro rfl;simp at e
   cases ks with
   |nil=>exact absurd rfl h0
   |cons x ks=>simp only[ay,D7]at this ⊢;omega
  |@non _ _ r hs=>
   rw[Da,if_pos bC];exact⟨.non (k1.trans hs),LOk.same _⟩
  |@som _ _ r x hs h=>
   rw[Da,if_pos bC];obtain⟨h1,h2⟩:=ih a.part b.part x (Jm ⟨k1,k2,k3⟩) h;refine⟨.som (k1.trans hs) h1,?_,?_⟩
   ·intro e;have:(Cz S d a.part x).2=false:=fj;exact congrArg (fun z=>Vl.mk 63 [] 0 [z]) (h2.1 this)
   intro e;have:(Cz S d a.part x).2=true:=fj;have:=h2.2 this;simp only[Ki];simpa [Gs,Av]using this
  |@enm _ _ u g hs hb ht h9 hf=>
   rw[Da,if_neg bC,if_neg cR];obtain⟨t,u2,e1,e2,e3,e4⟩:=hR _ _ (k3 (k2.trans hb));rw[ht]at e2;injection e2 with e2;subst e2;rw[e1];simp only;rw[if_neg (show ¬(69:UInt8)=85 by decide),if_neg (show ¬(69:UInt8)=82 by decide)];refine⟨?_,LOk.same _⟩;have:=e4 g (As hf).2;unfold M7 at this;cases h3:Au t.fields g.tag with
   |none=>rw[h3]at this;simp only at this;rw[h9]at this;exact absurd this aK
   |some f=>
    have et:=(As h3).1;rw[<-et];exact .enm (k1.trans hs) (k2.trans hb) e1 (e3.trans h9) (by rw[et];exact h3)
  |@uni _ _ u g x hs hb ht h5 hf h=>
   rw[Da,if_neg bC,if_neg cR];obtain⟨t,u2,e1,e2,e3,e4⟩:=hR _ _ (k3 (k2.trans hb));rw[ht]at e2;injection e2 with e2;subst e2;rw[e1];simp only;rw[if_pos Ac];have:=e4 g (As hf).2;unfold M7 at this;cases h3:Au t.fields g.tag with
   |none=>rw[h3]at this;simp only at this;rw[h5]at this;exact absurd this aK
   |some f=>
    rw[h3]at this;simp only at this;have hkr:=(this.resolve_left dD).1;obtain⟨h1,h2⟩:=ih f.kind g.kind x hkr h;have et:=(As h3).1;simp only;refine⟨?_,?_,?_⟩
    ·rw[<-et];exact .uni (k1.trans hs) (k2.trans hb) e1 (e3.trans h5) (by rw[et];exact h3) h1
    ·intro e;have:(Cz S d f.kind x).2=false:=fj;exact congrArg (fun z=>Vl.mk 85 [] g.tag [z]) (h2.1 this)
    intro e;have:(Cz S d f.kind x).2=true:=fj;have:=h2.2 this;simp only[Ki];simpa [Gs,Av]using this
  |@rcd _ _ u ps hs hb ht h82 hf h hn hp=>
   rw[Da,if_neg bC,if_neg cR];obtain⟨t,u2,e1,e2,e3,e4⟩:=hR _ _ (k3 (k2.trans hb));rw[ht]at e2;injection e2 with e2;subst e2;rw[e1];simp only;rw[if_neg (show ¬(82:UInt8)=85 by decide),if_pos Ac];have hkr:∀p∈ps,∀f,Au t.fields p.1.tag=some f->Nn S d f.kind (Cz S d f.kind p.2).1/\LOk p.2 (Cz S d f.kind p.2):=by
    intro p hp f h3;have:=e4 p.1 (As (hf p hp)).2;unfold M7 at this;rw[h3]at this;simp only at this;exact ih f.kind p.1.kind p.2 (this.resolve_left (by rw[h82];decide)).1 (h p hp)
   obtain⟨m1,m2,m3⟩:=Qha (S:=S) (K:=Cz S d) (fs:=t.fields) (ps:=ps) fun p hp f h3=>(hkr p hp f h3).2;rw[Xs];refine⟨.rcd (k1.trans hs) (k2.trans hb) e1 (e3.trans h82) ?_ ?_ ?_ ?_,?_,?_⟩
   ·intro q hq;obtain⟨p,hp,hpq⟩:=List.mem_filterMap.1 hq;exact(Ka hpq).1
   ·intro q hq;obtain⟨p,hp,hpq⟩:=List.mem_filterMap.1 hq;obtain⟨i1,i2,i3,_⟩:=Ka hpq;rw[i3];exact(hkr p hp q.1 (by rw[<-i2];exact i1)).1
   ·intro q hq;obtain⟨p,hp,hpq⟩:=List.mem_filterMap.1 hq;exact(Ka hpq).2.2.2
   ·rw[List.pairwise_filterMap];exact hp.imp fun hlt x hx y hy=>by rw[(Ka hx).2.1,(Ka hy).2.1];exact hlt
   ·intro e;exact congrArg (Vl.mk 82 [] 0) (m1 e)
   intro e;obtain⟨m4,m5⟩:=m3 e;simp only;rw[Mg,Mg];simp only[List.length_cons,ah,Bu,List.length_nil];omega
section
variable {P:Program}
end
theorem Xc(a b:List (List UInt8)):Bt (a++b)=Bt a++Bt b:=by simp[Bt]
section
attribute [local go_sem] Qiz Qii Qib Qgw ByteArray.mk_append_mk
theorem N4(n:Nat)(w:World)(hn:n<10):
  Calls prog 33 #[.int .i64 n] w fun e w'=>e=.returned (.string ⟨(Bb n).toArray⟩)/\Below w w w':=by
 have Hfin:=Aa (Eb hn);have hcv:=fun W=>Qf5 W w 1 (Gm (48+n));rw[Fz aH]at hcv;go_enter func33,ntmps33;go_wp2_with fail;go_ret;exact⟨by rw[Hfin.o];rfl,(Aq _ _).alloc (Ap _) _⟩
theorem N9:∀(k n:Nat) (w:World),n<=k->n<=1000000000 ->
  Calls prog 33 #[.int .i64 n] w fun e w'=>e=.returned (.string ⟨(Bb n).toArray⟩)/\Below w w w':=by
 intro k;induction k with
 |zero=>intro n w hn h;exact N4 n w aH
 |succ k ih=>
  intro n w hn h;by_cases h10:n<10
  ·exact N4 n w h10
  have Hfin:=Aa (Mx h10);have Hs:=Aa (Eb (show n % 10<10 by omega));have Ih:=Aa (fun W=>ih (n / 10) W aH aH);have hl:=Qe5 8 (n / 10) gc;have e1:((n:Int) / 10)=((n / 10:Nat):Int):=aH;have e2:((n:Int) % 10)=((n % 10:Nat):Int):=aH;have E1:=Aa e1;have E2:=Aa e2;clear ih e1 e2;go_enter func33,ntmps33;go_wp2_with fail;rw[E1.o];refine(Ih.o _).mono ?_;rintro e w1 ⟨rfl,hb1⟩;have Hb1:=Aa hb1;clear hb1;go_wp2_with fail;rw[E2.o];refine(N4 (n % 10) w1 aH).mono ?_;rintro e w2 ⟨rfl,hb2⟩;have Hb2:=Aa (Hb1.o.trans (hb2.mono Hb1.o.size));rw[Hs.o];clear hb2;go_wp2_with fail;go_ret;exact⟨by rw[Hfin.o];rfl,Hb2.o⟩
def Qhz(b:List UInt8):Prop:=b=[110]\/b=[116]\/b=[102]\/b=[64]
theorem Qd3{s:List UInt8}:Bz [110] s=(match Cn s with|some n=>decide (0<n)|none=>false):=rfl
theorem Qdz{s:List UInt8}:Bz [116] s=(decide (2<s.length) && decide (s.head?=some 39) && decide (s.getLast?=some 39) && Dl (s.drop 1).dropLast):=rfl
theorem Qe3{s:List UInt8}:Bz [102] s=decide (s=[121,101,115]):=rfl
theorem Qcy(s:List UInt8)(w:World)(hs:s.length<=4000000):
  Calls prog 127 #[.string ⟨#[110]⟩,s] w fun e w'=>e=.returned (.bool (Bz [110] s))/\Below w w w':=by
 have Hp:=Aa (fun W=>Gk s 999999 W aH aH);have Hf:=Aa (Qd3 (s:=s));cases hd:Cn s with
 |none=>
  rw[hd]at Hf;have Hv:=Aa (Ql (m:=999999) hd);clear hd;go_enter func127,ntmps127;go_wp2_with fail;refine(Hp.o _).mono ?_;rintro e w' ⟨rfl,rfl⟩;rw[Hv.o];go_wp2_with fail;go_ret;exact⟨Ea (Cs Hf.o.symm),Aq _ _⟩
 |some n=>
  rw[hd]at Hf;have h9:=(Ca.1 hd).1;have Hv:=Aa (Tc (m:=999999) hd);have t1:decide (n<=999999)=true:=by simp;exact h9
  clear hd;rcases aG 0 n with hn|hn;all_goals
   go_enter func127,ntmps127;go_wp2_with fail;refine(Hp.o _).mono ?_;rintro e w' ⟨rfl,rfl⟩;rw[Hv.o,t1];go_wp2_with fail;go_ret;exact⟨Ea (Cs (by rw[Hf.o];first|done|(simp;try omega))),Aq _ _⟩
theorem Qci(s:List UInt8)(w:World)(hs:s.length<=4000000):
  Calls prog 127 #[.string ⟨#[102]⟩,s] w fun e w'=>e=.returned (.bool (Bz [102] s))/\Below w w w':=by
 have Hf:=Aa (Qe3 (s:=s));by_cases hy:s=[121,101,115]
 ·subst hy;go_enter func127,ntmps127;go_wp2_with fail;go_ret;exact⟨Ea (Cs (by rw[Hf.o];simp)),Aq _ _⟩
 have Hy:=Aa (show decide (s=[121,101,115])=false by simpa using hy);have ty:(s == [121,101,115])=false:=by simpa using hy
 clear hy;go_enter func127,ntmps127;go_wp2_with fail;go_ret;exact⟨Ea (Cs (by rw[Hf.o,Hy.o])),Aq _ _⟩
theorem Qak(s:List UInt8)(w:World):
  Calls prog 127 #[.string ⟨#[64]⟩,s] w fun e w'=>e=.returned (.bool (Bz [64] s))/\Below w w w':=by
 go_enter func127,ntmps127;go_wp2_with fail;go_ret;exact⟨rfl,Aq _ _⟩
theorem Qbp(s:List UInt8)(w:World)(hs:s.length<=4000000):
  Calls prog 127 #[.string ⟨#[116]⟩,s] w fun e w'=>e=.returned (.bool (Bz [116] s))/\Below w w w':=by
 have hf:=Qdz (s:=s);rcases aG 2 s.length with h2|h2
 ·obtain⟨c,u,d,rfl⟩:∃c u d,s=c::(u++[d]):=by
   cases s with
   |nil=>simp at h2
   |cons c t=>
    rcases Ej t with rfl|⟨u,d,rfl⟩
    ·simp at h2
    exact⟨c,u,d,rfl⟩
  have hl:(c::(u++[d])).getLast?=some d:=by
   rw[show c::(u++[d])=(c::u)++[d]from rfl,List.getLast?_append];rfl
  have hu:((c::(u++[d])).drop 1).dropLast=u:=aL;rw[hl,hu]at hf;have t0:decide (2<(c::(u++[d])).length)=true:=fa;rw[t0]at hf;simp only[List.head?_cons,aj,Bool.true_and]at hf;have Hf:=Aa hf;have hc:=c.toNat_lt;have hd:=d.toNat_lt;have hgd:∀h,(c::(u++[d]))[u.length+1]'h=d:=by intro h;simp
  have hsl:(List.take u.length (u++[d]))=u:=aL;have hul:2<=u.length+1:=by simp at h2;omega
  have hul2:u.length<=4000000:=gw;clear hf hl hu h2 hs t0;by_cases hc39:c=39
  ·have t1:((c.toNat:Int) == 39)=true:=Be hc39;have Hc:=Aa (show decide (c=39)=true by simpa using hc39);clear hc39;by_cases hd39:d=39
   ·have t2:((d.toNat:Int) == 39)=true:=Be hd39;have Hd:=Aa (show decide (d=39)=true by simpa using hd39);clear hd39;go_enter func127,ntmps127;go_wp2_with fail;refine(Qc0 u _ aH).mono ?_;rintro e w' ⟨rfl,hb⟩;go_wp2_with fail;go_ret;exact⟨Ea (Cs (by rw[Hf.o,Hc.o,Hd.o];simp)),hb⟩
   have t2:((d.toNat:Int) == 39)=false:=Am hd39;have Hd:=Aa (show decide (d=39)=false by simpa using hd39);clear hd39;go_enter func127,ntmps127;go_wp2_with fail;go_ret;exact⟨Ea (Cs (by rw[Hf.o,Hd.o];simp)),Aq _ _⟩
  have t1:((c.toNat:Int) == 39)=false:=Am hc39;have Hc:=Aa (show decide (c=39)=false by simpa using hc39);clear hc39;go_enter func127,ntmps127;go_wp2_with fail;go_ret;exact⟨Ea (Cs (by rw[Hf.o,Hc.o];simp)),Aq _ _⟩
 have e0:decide (2<s.length)=false:=aM;have Hf:=Aa (show Bz [116] s=false by rw[hf,e0];simp);clear e0;have t0:decide (2<(s.length:Int))=false:=aM;clear hf;go_enter func127,ntmps127;go_wp2_with fail;go_ret;exact⟨Ea (Cs Hf.o.symm),Aq _ _⟩
theorem Zv(b s:List UInt8)(w:World)(hb:Qhz b)(hs:s.length<=4000000):
  Calls prog 127 #[b,s] w fun e w'=>e=.returned (.bool (Bz b s))/\Below w w w':=by
 rcases hb with rfl|rfl|rfl|rfl
 ·exact Qcy s w hs
 ·exact Qbp s w hs
 ·exact Qci s w hs
 exact Qak s w
theorem Aj{B:Nat}{w w':World}{b o:Nat}{cs:List Value}(h:w.rangeAt b o cs)(hb:b<B)(hw:Below B w w'):w'.rangeAt b o cs:=fun j v hv=>(hw.cell (p:=⟨b,o+j,none⟩) hb).trans (h j v hv)
theorem Al{B:Nat}{w w':World}{b o n:Nat}(h:w.there b o n)(hb:b<B)(hw:Below B w w'):w'.there b o n:=fun j hj=>by
 rw[hw.cell (p:=⟨b,o+j,none⟩) hb,hw.frozen (p:=⟨b,o+j,none⟩) hb];exact h j hj
theorem Gi{w w':World}{b o:Nat}{cs:List Value}{row:Option Nat}(h:w.rangeAt b o cs)(hg:w.grownBy w' row)(hne:some b≠row):w'.rangeAt b o cs:=fun j v hv=>hg.cell (h j v hv) hne
theorem Gt{w w':World}{b o n:Nat}{row:Option Nat}(h:w.there b o n)(hg:w.grownBy w' row)(hb:b<w.heap.size)(hne:some b≠row):w'.there b o n:=fun j hj=>by
 rw[hg.cell_far ⟨b,o+j,none⟩ hb hne,hg.frozen_far ⟨b,o+j,none⟩ hb hne];exact h j hj
theorem J7{w:World}{b o n:Nat}(h:w.there b o n)(p m:Nat)(h1:o<=p)(h2:p+m<=o+n):w.there b p m:=fun j hj=>by
 have:=h (p+j - o) aH;rwa [show o+(p+j - o)=p+j by omega]at this
theorem Bw(w:World)(cs:List Value)(t:TypeId):(w.alloc (.cells cs.toArray t)).rangeAt w 0 cs:=fun j v hv=>by
 rw[World.cell?_alloc_new];simpa using hv
theorem Cc(w:World)(cs:List Value)(t:TypeId):(w.alloc (.cells cs.toArray t)).there w 0 cs.length:=fun j hj=>by
 refine⟨?_,by simp⟩;rw[World.cell?_alloc_new];simp;omega
theorem Ag{B:Nat}{a:World}(b:Nat)(hb:B<=b):∀(vs:List Value) (o:Nat) (w:World),Below B a w->Below B a (w.setCells b o vs)
 |[],_,_,h=>h
 |v::r,o,w,h=>Ag b hb r (o+1) _ (h.setCell hb v)
theorem B6(b:Nat):∀(vs:List Value) (o:Nat) (w:World),(w.setCells b o vs).heap.size=w.heap.size
 |[],_,_=>rfl
 |v::r,o,w=>by rw[World.setCells,B6 b r];simp
theorem Ab{w:World}{b o:Nat}{cs:List Value}(h:w.rangeAt b o cs)(j:Nat){v:Value}(hv:cs[j]?=some v):w.cell? ⟨b,o+j,none⟩=some v:=h j v hv
theorem Yw{w:World}{b o:Nat}(l1 l2 l3:List Value)(h:w.rangeAt b o (l1++(l2++l3))):w.rangeAt b (o+l1.length) l2:=fun j v hv=>by
 have hj:=(List.getElem?_eq_some_iff.1 hv).1;rw[Nat.add_assoc];exact h _ v (by rw[List.getElem?_append_right aH,Nat.add_sub_cancel_left,List.getElem?_append_left hj];exact hv)
theorem C7{w:World}{b:Nat}(l1 l2 l3 l2':List Value)(h:w.rangeAt b 0 (l1++(l2++l3)))(hl:l2'.length=l2.length):(w.setCells b l1.length l2').rangeAt b 0 (l1++(l2'++l3)):=fun j v hv=>by
 have hjl:j<l1.length+(l2'.length+l3.length):=by
  have:=(List.getElem?_eq_some_iff.1 hv).1;simpa using this
 have hsome:∀i,i<l2'.length->(w.cell? ⟨b,l1.length+i,none⟩).isSome=true:=fun i hi=>by
  have e:(l1++(l2++l3))[l1.length+i]?=some (l2[i]' aH):=by
   rw[List.getElem?_append_right aH,List.getElem?_append_left aH,Nat.add_sub_cancel_left,List.getElem?_eq_getElem aH]
  have:=h _ _ e;rw[am]at this;rw[this];rfl
 rw[am];rcases aG j l1.length with h1|h1
 ·rw[World.cell?_setCells_out b l2' l1.length w ⟨b,j,none⟩ (fun _ _=>.inl h1)];rw[List.getElem?_append_left h1]at hv;have:=h j v (by rw[List.getElem?_append_left h1];exact hv);rwa [am]at this
 rw[List.getElem?_append_right h1]at hv;rcases aG (j - l1.length) l2'.length with h2|h2
 ·rw[List.getElem?_append_left h2,List.getElem?_eq_getElem h2]at hv;have:=World.cell?_setCells_in b l2' l1.length w hsome (j - l1.length) h2;rw[show l1.length+(j - l1.length)=j by omega]at this;rw[this];exact hv
 rw[World.cell?_setCells_out b l2' l1.length w ⟨b,j,none⟩ (fun _ _=>.inr (by show l1.length+l2'.length<=j;omega))];rw[List.getElem?_append_right h2]at hv;have:=h j v (by rw[List.getElem?_append_right h1,List.getElem?_append_right aH,<-hl];exact hv);rwa [am]at this
section
variable {P:Program}
theorem Ad{ops:Array Oper}{rest:List Oper}{op:Oper}{a:Act}{w:World}{Q:Exit->Act->World->Prop}(hgd:op.guard=none)(ty:TypeId)(x y:Operand)(ho:op.op=.store ty x y)
  (b o:Nat) (cs:List Value) (hx:a.eval x=.pointer (some ⟨b,o,none⟩)) (hy:a.eval y=.agg cs.toArray)
  (ht:w.there b o cs.length) (hi:(P.info? ty).map (·.size)=some cs.length) (h1:∀v∈cs,v.oneCell'=true)
  (h:∀w',Hid (w'=w.setCells b o cs)->wpList P ops Q rest (a.put op.dst undef) w'):wpList P ops Q (op::rest) a w:=
 wpList_store_mid hgd ty x y ho b o cs.toArray hx hy cn ei (all_oneCell_toArray h1) (h _ rfl)
theorem Ao{fn:Func}{p q:Tmp}{ty:TypeId}(h:fn.results=#[.cell p ty,.tmp q])(tmps:Array Value)(w:World)(b:Nat)(cs:List Value)(d:TypeDesc)(x:Value)
  (hp:tmps.getD p undef=b) (hq:tmps.getD q undef=x) (hc:w.rangeAt b 0 cs) (hu:P.underlying ty=some d) (hd:d.isRow=true) (hi:(P.info? ty).map (·.size)=some cs.length):
  (results fn tmps).run P w=.ok (.tuple #[.agg cs.toArray,x]) w:=by
 have hp':tmps[p]?.getD undef=b:=du;have hq':tmps[q]?.getD undef=x:=fc;simp[results,h,hp',hq',asAddr,run_loadVar_mid w b 0 ty cs d hc hu hd hi]
theorem Fp{fn:Func}{r p q:Tmp}{ty:TypeId}(h:fn.results=#[.tmp r,.cell p ty,.tmp q])(tmps:Array Value)(w:World)(b:Nat)(cs:List Value)(d:TypeDesc)(y x:Value)
  (hr:tmps.getD r undef=y) (hp:tmps.getD p undef=b) (hq:tmps.getD q undef=x) (hc:w.rangeAt b 0 cs) (hu:P.underlying ty=some d) (hd:d.isRow=true) (hi:(P.info? ty).map (·.size)=some cs.length):
  (results fn tmps).run P w=.ok (.tuple #[y,.agg cs.toArray,x]) w:=by
 have hp':tmps[p]?.getD undef=b:=du;have hq':tmps[q]?.getD undef=x:=fc;have hr':tmps[r]?.getD undef=y:=dv;simp[results,h,hp',hq',hr',asAddr,run_loadVar_mid w b 0 ty cs d hc hu hd hi]
end
theorem Xl(n:Nat)(w:World)(hn:n<10):
  Calls prog 71 #[.int .i64 n] w fun e w'=>e=.returned (.string ⟨(Bb n).toArray⟩)/\Below w w w':=by
 have Hfin:=Aa (Eb hn);have hcv:=fun W=>Qf5 W w 1 (Gm (48+n));rw[Fz aH]at hcv;go_enter func71,ntmps71;go_wp2_with fail;go_ret;exact⟨by rw[Hfin.o];rfl,(Aq _ _).alloc (Ap _) _⟩
theorem Qb7(n:Nat)(h10:¬n<10)(hn:n<=1000000000)(ih:∀W,Calls prog 71 #[.int .i64 ((n / 10:Nat):Int)] W fun e w'=>e=.returned (.string ⟨(Bb (n / 10)).toArray⟩)/\Below W W w')(w:World):
  Calls prog 71 #[.int .i64 n] w fun e w'=>e=.returned (.string ⟨(Bb n).toArray⟩)/\Below w w w':=by
 have Hfin:=Aa (Mx h10);have ih':=Aa ih;have hl:=Qe5 8 (n / 10) gc;clear ih;have hcv:=fun W g=>Qf5 W g 1 (Gm (48+n % 10));have h1:IntKind.u8.wrap (IntKind.i64.wrap (48+(n:Int).tmod 10))=((Gm (48+n % 10)).toNat:Int):=by
  rw[Fz aH,Int.tmod_eq_emod_of_nonneg aH,IntWalk.i64_in _ aH,IntWalk.u8_in _ aH];omega
 have h2:IntKind.i64.wrap ((n:Int) / 10)=((n / 10:Nat):Int):=by rw[IntWalk.i64_in _ aH];omega
 go_enter func71,ntmps71;go_wp2_with fail;go_region_with (go_at_call 71;refine(ih'.out _).mono ?_;rintro e w' ⟨rfl,hb⟩;obtain⟨hc,hf,hz⟩:=By hb)
 all_goals
  go_wp2
  go_ret;refine⟨by rw[Hfin.o];rfl,?_⟩;have hsz:=hb.size;repeat (first|exact Aq _ _|refine Below.drew ?_|refine Below.alloc ?_ (by simp at hsz ⊢;first|omega|done) _|refine Below.trans ?_ (hb.mono aL))
theorem Jh:∀(k n:Nat) (w:World),n<=k->n<=1000000000 ->
  Calls prog 71 #[.int .i64 n] w fun e w'=>e=.returned (.string ⟨(Bb n).toArray⟩)/\Below w w w':=by
 intro k;induction k with
 |zero=>intro n w hn h;exact Xl n w aH
 |succ k ih=>
  intro n w hn h;by_cases h10:n<10
  ·exact Xl n w h10
  exact Qb7 n h10 h (fun W=>ih (n / 10) W aH aH) w
theorem Xa(s:List UInt8)(k:Nat)(hk:k<=6)(h:(s.take k).all Bh=true):Fv (s.take k)<=999999:=by
 have h1:=Tf (s.take k).length (s.take k) rfl h;have h2:10 ^ (s.take k).length<=10 ^ 6:=Nat.pow_le_pow_right aH aM;have e6:10 ^ 6=1000000:=rfl;omega
def Dp(s:List UInt8)(top:Nat):Bool:=match Cn s with|some m=>decide (m<=top)|none=>false
theorem Mr{s:List UInt8}{top:Nat}(h:Cn s=none):Dp s top=false:=by unfold Dp;rw[h]
theorem Mn{s:List UInt8}{top n:Nat}(h:Cn s=some n):Dp s top=decide (n<=top):=by unfold Dp;rw[h]
def Qep(s:List UInt8)(top:Nat)(w:World)(e:Ending)(w':World):Prop:=
 ∃n:Nat,n<=999999/\e=.returned (.tuple #[.int .i64 n,.bool (Dp s top)])/\(∀m,Cn s=some m->m=n)/\Below w w w'
theorem Dg(s:List UInt8)(m:Nat)(w:World)(hs:s.length<=4000000)(hm:m<=999999):
  Calls prog 94 #[s,.int .i64 m] w (Qep s m w):=by
 go_enter func94,ntmps94;go_wp2_with fail;go_loop [6,7] (fun x i=>∃k:Nat,i=.int .i64 k/\k<=s.length/\k<=6/\Hid ((s.take k).all Bh=true)/\Fv (s.take k)<=999999/\x=.int .i64 ((Fv (s.take k):Nat):Int)) (fun _ i=>s.length - (intOf i).toNat)
 case atStart=>exact⟨0,rfl,ag _,by omega,by simp[Hid],by simp[Fv],by simp[Fv]⟩
 case round=>
  obtain⟨k,rfl,hk,hk6,hdig,hv,rfl⟩:=hrel;by_cases hlt:k<s.length
  ·have hc:=(s[k]).toNat_lt;have Hts:=Aa (Ch s k hlt);have Hmem:=Aa (ae hlt);by_cases hd:Bh s[k]=true
   ·have hd2:=Dh.1 hd;obtain⟨d1,d2⟩:=hd2;by_cases h5:k<=5
    ·have hdig2:(s.take (k+1)).all Bh=true:=by
      rw[Hts.o,List.all_append,hdig.o];simp[hd]
     have hv2:=Xa s (k+1) aH hdig2;have Hdig2:=Aa hdig2;have Hv:=Aa (show Fv (s.take (k+1))=10*Fv (s.take k)+((s[k]).toNat - 48)by rw[Hts.o,J9]);clear hd hdig2;go_wp2_with fail;go_round
     case rel=>exact⟨k+1,by go_num,by omega,by omega,Hdig2.o,hv2,Qit (by rw[Hv.o];omega)⟩
     case measure=>simp[intOf];omega
    have h5':5<k:=aH;have hno:Cn s=none:=by
     unfold Cn;rw[if_neg];rintro⟨_,h,_⟩;omega
    have Hn:=Aa (Mr (top:=m) hno);have Hno:=Aa hno;clear hd hno h5;go_wp2_with fail;go_ret2;exact⟨0,by omega,by rw[Hn.o];rfl,(fun m h=>by rw[Hno.o]at h;cases h),Aq _ _⟩
   have hno:Cn s=none:=by
    unfold Cn;rw[if_neg];rintro⟨_,_,h,_⟩;exact hd (List.all_eq_true.1 h _ Hmem.o)
   have Hn:=Aa (Mr (top:=m) hno);have Hno:=Aa hno;have h2:(s[k]).toNat<48\/(48<=(s[k]).toNat/\57<(s[k]).toNat):=by
    rcases aG (s[k]).toNat 48 with h|h
    ·exact .inl h
    rcases aG 57 (s[k]).toNat with h'|h'
    ·exact .inr ⟨h,h'⟩
    exact absurd (Dh.2 ⟨h,h'⟩) hd
   clear hd hno;rcases h2 with h2|⟨h2,h4⟩
   ·go_wp2_with fail;go_ret2;exact⟨0,by omega,by rw[Hn.o];rfl,(fun m h=>by rw[Hno.o]at h;cases h),Aq _ _⟩
   go_wp2_with fail;go_ret2;exact⟨0,by omega,by rw[Hn.o];rfl,(fun m h=>by rw[Hno.o]at h;cases h),Aq _ _⟩
  ·have e:s.take k=s:=au aH;rw[e]at hv ⊢;have hcase:(Cn s=some (Fv s)/\s=Bb (Fv s))\/(Cn s=none/\s≠Bb (Fv s)):=by
    by_cases h:s=Bb (Fv s)
    ·exact .inl ⟨Ca.2 ⟨hv,h⟩,h⟩
    refine .inr ⟨?_,h⟩;cases hd:Cn s with
    |none=>rfl
    |some n=>
     obtain⟨_,h2⟩:=Ca.1 hd;exact absurd (by rw[h2,Pr]) h
   clear hdig e;generalize Fv s=v at hv hcase;have hdl:=Qe5 5 v gi;rcases hcase with⟨h1,h2⟩|⟨h1,h2⟩
   ·have Hn:=Aa (Mn (top:=m) h1);have Hd:=Aa h1;have tq:(s == Bb v)=true:=fa;clear h1 h2;by_cases hvm:v<=m
    ·go_wp2_with fail;refine(Jh v v _ (Ap _) aH).mono ?_;rintro e w1 ⟨rfl,hb⟩;have Hb:=Aa hb;clear hb;go_wp2_with fail;go_ret2;exact⟨v,hv,by rw[Hn.o];exact Qhr rfl (Cs (by simp[hvm])),(fun m h=>by rw[Hd.o]at h;injection h with h;exact h.symm),Hb.o⟩
    have hvm':m<v:=aH;go_wp2_with fail;refine(Jh v v _ (Ap _) aH).mono ?_;rintro e w1 ⟨rfl,hb⟩;have Hb:=Aa hb;clear hb;go_wp2_with fail;go_ret2;exact⟨v,hv,by rw[Hn.o];exact Qhr rfl (Cs aM),(fun m h=>by rw[Hd.o]at h;injection h with h;exact h.symm),Hb.o⟩
   have Hn:=Aa (Mr (top:=m) h1);have Hd:=Aa h1;have tq:(s == Bb v)=false:=fa;clear h1 h2;go_wp2_with fail;refine(Jh v v _ (Ap _) aH).mono ?_;rintro e w1 ⟨rfl,hb⟩;have Hb:=Aa hb;clear hb;go_wp2_with fail;go_ret2;exact⟨v,hv,by rw[Hn.o];rfl,(fun m h=>by rw[Hd.o]at h;cases h),Hb.o⟩
def Fk(s:List UInt8):Bool:=decide (2<=s.length) && decide (s.head?=some 39) && decide (s.getLast?=some 39) && Dl (s.drop 1).dropLast
theorem Vg(s:List UInt8)(w:World)(hs:s.length<=4000000):
  Calls prog 95 #[s] w fun e w'=>e=.returned (.bool (Fk s))/\w=w':=by
 have hf:Fk s=(decide (2<=s.length) && decide (s.head?=some 39) && decide (s.getLast?=some 39) && Dl (s.drop 1).dropLast):=rfl;rcases aG s.length 2 with h2|h2
 ·have e0:decide (2<=s.length)=false:=aM;have Hf:=Aa (show Fk s=false by rw[hf,e0];simp);have t0:decide ((s.length:Int)<2)=true:=aM;clear hf e0;go_enter func95,ntmps95;go_wp2_with fail;go_ret;exact⟨Ea (Cs Hf.o.symm),rfl⟩
 have t0:decide ((s.length:Int)<2)=false:=aM;rcases aG 14 s.length with h14|h14
 ·have Hf:=Aa (show Fk s=false by
   have:Dl (s.drop 1).dropLast=false:=by
    unfold Dl;have e1:decide ((s.drop 1).dropLast.length<=12)=false:=aM;rw[e1];rfl
   rw[hf,this];simp)
  have t1:decide (14<(s.length:Int))=true:=aM;clear hf;go_enter func95,ntmps95;go_wp2_with fail;go_ret;exact⟨Ea (Cs Hf.o.symm),rfl⟩
 obtain⟨c,u,d,rfl⟩:∃c u d,s=c::(u++[d]):=by
  cases s with
  |nil=>simp at h2
  |cons c t=>
   rcases Ej t with rfl|⟨u,d,rfl⟩
   ·simp at h2
   exact⟨c,u,d,rfl⟩
 have hl:(c::(u++[d])).getLast?=some d:=by
  rw[show c::(u++[d])=(c::u)++[d]from rfl,List.getLast?_append];rfl
 have hu:((c::(u++[d])).drop 1).dropLast=u:=aL;have e2:decide (2<=(c::(u++[d])).length)=true:=aL;rw[hl,hu,e2]at hf;simp only[List.head?_cons,aj,Bool.true_and]at hf;have Hf:=Aa hf;have hc:=c.toNat_lt;have hd:=d.toNat_lt;have hgd:∀h,(c::(u++[d]))[u.length+1]'h=d:=by intro h;simp
 have hul:u.length<=12:=by simp at h14;omega
 have Hfit:=Aa (show Dl u=u.all Ce by simp[Dl,hul]);clear hf hl hu h2 hs h14 t0 e2;by_cases hc39:c=39
 ·have t1:((c.toNat:Int) != 39)=false:=by have:=Be hc39;simpa using this
  have Hc:=Aa (show decide (c=39)=true by simpa using hc39);clear hc39;by_cases hd39:d=39
  ·have t2:((d.toNat:Int) != 39)=false:=by have:=Be hd39;simpa using this
   have Hd:=Aa (show decide (d=39)=true by simpa using hd39);clear hd39;go_enter func95,ntmps95;go_wp2_with fail;go_loop [3] (fun i=>∃k:Nat,i=.int .i64 ((k:Int)+1)/\k<=u.length/\Hid ((u.take k).all Ce=true)) (fun i=>u.length+1 - (intOf i).toNat)
   case atStart=>exact⟨0,rfl,ag _,by simp[Hid]⟩
   case round=>
    obtain⟨k,rfl,hk,hin⟩:=hrel;by_cases hlt:k<u.length
    ·have hg:∀h,(c::(u++[d]))[k+1]'h=u[k]:=by intro h;simp[List.getElem_append_left hlt]
     have Hts:=Aa (Ch u k hlt);have Hmem:=Aa (ae hlt);have hx:=(u[k]).toNat_lt;generalize u[k]=x at hg Hts Hmem hx;by_cases ht:Ce x=true
     ·have Hin:=Aa (show (u.take (k+1)).all Ce=true by rw[Hts.o,List.all_append,hin.o];simp[ht]);have h3:x=32\/(x.toNat≠32/\48<=x.toNat/\x.toNat<=57)\/(57<x.toNat/\97<=x.toNat/\x.toNat<=122):=by
       unfold Ce at ht;simp only[Bool.or_eq_true]at ht;rcases ht with(h|h)|h
       ·have:=Mu.1 h;exact .inr (.inr ⟨by omega,this⟩)
       ·have:=Dh.1 h;exact .inr (.inl ⟨by omega,this⟩)
       exact .inl bg
      clear ht;rcases h3 with h3|⟨h3,h4,h5⟩|⟨h3,h4,h5⟩
      ·have t3:((x.toNat:Int) != 32)=false:=by have:=Be h3;simpa using this
       clear h3;go_wp2_with fail;go_round
       case rel=>exact⟨k+1,by go_num,by omega,Hin.o⟩
       case measure=>simp[intOf];omega
      ·have t3:((x.toNat:Int) != 32)=true:=eW;go_wp2_with fail;go_round
       case rel=>exact⟨k+1,by go_num,by omega,Hin.o⟩
       case measure=>simp[intOf];omega
      have t3:((x.toNat:Int) != 32)=true:=eW;go_wp2_with fail;go_round
      case rel=>exact⟨k+1,by go_num,by omega,Hin.o⟩
      case measure=>simp[intOf];omega
     have Hno:=Aa (show u.all Ce=false by
      cases h:u.all Ce with
      |false=>rfl
      |true=>exact absurd (List.all_eq_true.1 h _ Hmem.o) ht)
     have h32:x≠32:=by rintro rfl;exact ht rfl
     have t3:((x.toNat:Int) != 32)=true:=by have:=Am h32;simpa using this
     have h3:x.toNat<48\/(57<x.toNat/\x.toNat<97)\/122<x.toNat:=by
      have a:¬H3 x=true:=fun h=>ht (by simp[Ce,h]);have b:¬Bh x=true:=fun h=>ht (by simp[Ce,h]);rw[Mu]at a;rw[Dh]at b;omega
     clear ht h32;rcases h3 with h3|⟨h3,h4⟩|h3;all_goals
      go_wp2_with fail;go_ret;exact⟨Ea (Cs (by rw[Hf.o,Hc.o,Hd.o,Hfit.o,Hno.o];rfl)),rfl⟩
    ·have Hall:=Aa (show u.all Ce=true by
      have:=hin.o;rwa [au aH]at this)
     have hk2:k=u.length:=aH;subst hk2;go_wp2_with fail;go_ret;exact⟨Ea (Cs (by rw[Hf.o,Hc.o,Hd.o,Hfit.o,Hall.o];rfl)),rfl⟩
  have t2:((d.toNat:Int) != 39)=true:=by have:=Am hd39;simpa using this
  have Hd:=Aa (show decide (d=39)=false by simpa using hd39);clear hd39;go_enter func95,ntmps95;go_wp2_with fail;go_ret;exact⟨Ea (Cs (by rw[Hf.o,Hd.o];simp)),rfl⟩
 have t1:((c.toNat:Int) != 39)=true:=by have:=Am hc39;simpa using this
 have Hc:=Aa (show decide (c=39)=false by simpa using hc39);clear hc39;go_enter func95,ntmps95;go_wp2_with fail;go_ret;exact⟨Ea (Cs (by rw[Hf.o,Hc.o];simp)),rfl⟩
section
variable {P:Program}
theorem M0(w:World)(base:Nat)(t ty e:TypeId)(i:TypeInfo)(z:Value)(size bytes:Nat)(ht:P.underlying t=some (.slice e))(hi:P.info? e=some i)(hz:i.zero=some z)
  (hsize:i.size=size) (hby:i.bytes=bytes) (hzs:z.cells.size=size) (hsz:0<size)
  (v:Value) (n:Nat) (xs:List Value) (hown:w.ownsRow base e size v n xs)
  (a:Addr) (m c:Nat) (news:List Value) (hl:news.length=m*size) (hnews:∀j u,news[j]?=some u->w.cell? (a.add j)=some u) (h1:∀u∈news,u.oneCell'=true)
  (hm:0<m) (h63:n+m<=maxLen) (hbytes:(n+m)*bytes<=140737488355328) (hbase:base<=w.heap.size):
  ∃v' w',(Builtin.append_ #[t,t] ty #[v,.slice (some a) m c]).run P w=.ok v' w'/\w'.ownsRow base e size v' (n+m) (xs++news)/\w.grownBy w' v.ownBlock /\
   (v'.ownBlock=v.ownBlock\/∃k,v'.ownBlock=some k/\w.heap.size<=k):=by
 obtain⟨v',w',hr,h2,h3,_⟩:=run_append_own (P:=P) w base t ty e i z size bytes ht hi hz hsize hby hzs hsz v n xs hown a m c news hl hnews h1 h63 hbytes hbase;refine⟨v',w',hr,h2,h3,?_⟩;subst hsize;subst hby;have h63':n+m<=9223372036854775807:=by simp only[maxLen]at h63;omega
 rcases hown.2 with⟨rfl,rfl⟩|⟨g,cap,cur,rfl,hbg,hg,hnc,hcm,hcs,htake⟩
 ·have hq:=run_append_nil (P:=P) w t ty e i z ht hi hz a m c news hl hnews hm aH (by have hb:=hbytes;simp only[am]at hb;omega);rw[hq]at hr;injection hr with e1 _;subst e1;exact .inr ⟨_,rfl,Ap _⟩
 by_cases hroom:n+m<=cap
 ·have hfit:n*i.size+news.length<=cur.size:=by rw[hl,hcs,<-Nat.add_mul];exact Nat.mul_le_mul_right _ hroom
  have hq:=run_append_room (P:=P) w t ty e i ht hi g n cap cur hg a m c news hl hnews h1 hroom hfit;rw[hq]at hr;injection hr with e1 _;subst e1;exact .inl rfl
 have holds:∀j u,xs[j]?=some u->w.cell? ((⟨g,0,none⟩:Addr).add j)=some u:=hown.cells (g:=g) rfl;have hq:=run_append_grow (P:=P) w t ty e i z ht hi hz ⟨g,0,none⟩ n cap xs hown.1 holds a m c news hl hnews aH aH (growslice_fits aH hbytes);rw[hq]at hr;injection hr with e1 _;subst e1;exact .inr ⟨_,rfl,Ap _⟩
theorem Gw(w:World){ops:Array Oper}{rest:List Oper}{o:Oper}{a:Act}{Q:Exit->Act->World->Prop}(hgd:o.guard=none)(s x:Operand)(t:TypeId)
  (ho:o.op=.call {callee:=.builtin .append,args:=#[s,x],argTypes:=#[t,t]})
  (base:Nat) (e:TypeId) (z:Value) (bytes:Nat) (ht:P.underlying t=some (.slice e)) (hinfo:(P.info? e).map (fun i=>(i.zero,i.size,i.bytes))=some (some z,1,bytes))
  (hzs:z.cells.size=1) (W:World) (u:Value) (hw:w=W.alloc (.cells #[u] e)) (hu:u.oneCell'=true) (v:Value) (n:Nat) (xs:List Value) (hs:a.eval s=v) (hx:a.eval x=.slice (W,0) 1 1)
  (hown:W.ownsRow base e 1 v n xs)
  (h63:n+1<=maxLen) (hbytes:(n+1)*bytes<=140737488355328) (hbase:base<=W.heap.size)
  (h:∀v' w',w'.ownsRow base e 1 v' (n+1) (xs++[u])->W.grownBy w' v.ownBlock->(v'.ownBlock=v.ownBlock\/∃k,v'.ownBlock=some k/\W.heap.size<=k)->wpList P ops Q rest (a.put o.dst v') w'):wpList P ops Q (o::rest) a w:=by
 subst hw;obtain⟨i0,hi,hz0,hz1,hz2⟩:=info_parts hinfo
 obtain⟨v',w',hrun,r1,r2,r3⟩:=M0 (P:=P) (W.alloc (.cells #[u] e)) base t o.type e i0 z 1 bytes ht hi hz0 hz1 hz2 hzs aK v n xs (hown.alloc _) ⟨W.heap.size,0,none⟩ 1 1 [u] rfl (by
  intro j y hj;match j,hj with
  |0,hj=>simp at hj;subst hj;simp[Addr.add,World.cell?_alloc_new]) (by intro y hy;simp at hy;subst hy;exact hu) aK h63 hbytes aM
 refine wpList_plain hgd fun K' hK'=>?_;unfold Oper.wp;simp[execOp,ho,resolve,invoke,builtin,hs,hx,hrun,Result.andThen];refine hK' _ _ (h v' w' r1 ?_ ?_)
 ·exact jx
 rcases r3 with r3|⟨k,r3,r4⟩
 ·exact .inl r3
 exact .inr ⟨k,r3,by simp at r4;omega⟩
end
end
end Go.Proofs.YtkgkoicedddkmaaGreatDoor
