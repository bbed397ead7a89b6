/- Texts joined. Conditions: as each theorem names them. -/
import Derived.Maps.OwnSet
import Derived.Maps.OwnOps
import Derived.StringKeys
import Derived.Deep.RegionWith
import Derived.Lib.Builder
import Derived.Lib.AppendStr
import Derived.Lib.UnsafeStr
import Derived.Lib.MakeNoZero
import Derived.Laws.Externs
import Derived.Laws.BitsLemmas
import Derived.RegionTactic
import Derived.Laws.AppendOwnNone
import Derived.Deep.MidRow
import Derived.Deep.AppendLies
import Derived.Laws.Append
import Derived.Test.YtbdibdghphdcdaaGreatDoorJ02
set_option maxRecDepth 100000
set_option maxHeartbeats 32000000
set_option linter.unusedVariables false
set_option linter.unusedSimpArgs false
namespace Go.Proofs.YtbdibdghphdcdaaGreatDoor
open Go.RowKit Go.Proofs.Tryz
theorem Cd.ownK{w:World}{base k:Nat}{e:TypeId}{v:Value}{n:Nat}{xs:List Value}(h:w.ownsRow base e k v n xs)(hle:n*k<=maxLen):∃A c,v=.slice A n c/\Cd w A (n*k) xs:=by
 have h1:=h.1;rcases h.2 with⟨rfl,rfl⟩|⟨g,cap,cur,rfl,hb,hh,hnc,hcm,hcs,htk⟩
 ·exact⟨none,0,rfl,by omega,by omega,fun h=>absurd h aH⟩
 refine⟨some ⟨g,0,none⟩,cap,rfl,by omega,hle,fun hn=>⟨g,0,rfl,(h.lt g rfl).2,fun j u hu=>?_⟩⟩;have:=h.cells (g:=g) rfl j u hu;have e1:(⟨g,0,none⟩:Addr).add j=⟨g,0+j,none⟩:=bD;rwa [e1]at this
section
variable {P:Program}
theorem Qe3(w:World){ops:Array Oper}{rest:List Oper}{o:Oper}{a:Act}{Q:Exit->Act->World->Prop}(hgd:o.guard=none)(s x:Operand)(t:TypeId)
  (ho:o.op=.call {callee:=.builtin .append,args:=#[s,x],argTypes:=#[t,t]})
  (base:Nat) (e:TypeId) (z:Value) (k bytes:Nat) (ht:P.underlying t=some (.slice e)) (hinfo:(P.info? e).map (fun i=>(i.zero,i.size,i.bytes))=some (some z,k,bytes))
  (hzs:z.cells.size=k) (hk:0<k) (W:World) (us:List Value) (hul:us.length=k) (hw:w=W.alloc (.cells us.toArray e)) (hu:∀u∈us,u.oneCell'=true) (v:Value) (n:Nat) (xs:List Value) (hs:a.eval s=v) (hx:a.eval x=.slice (W,0) 1 1)
  (hown:W.ownsRow base e k v n xs)
  (h63:n+1<=maxLen) (hbytes:(n+1)*bytes<=140737488355328) (hbase:base<=W.heap.size)
  (h:∀v' w',w'.ownsRow base e k v' (n+1) (xs++us)->Below base W w'->wpList P ops Q rest (a.put o.dst v') w'):wpList P ops Q (o::rest) a w:=by
 subst hw;obtain⟨i0,hi,hz0,hz1,hz2⟩:=info_parts hinfo;refine wpList_append_own _ hgd s x t ho base e i0 z k bytes ht hi hz0 hz1 hz2 hzs hk v n xs hs (hown.alloc _) ⟨W.heap.size,0,none⟩ 1 1 us hx aH ?_ hu h63 hbytes ?_ ?_
 ·exact jr
 ·exact jS
 intro v' w' h1 h2 _;exact h v' w' h1 (((Ap base W).alloc hbase _).grown h2 aM (fun k hk=>(hown.lt k hk).1))
end
theorem Qdi:(prog.info? 88).map (fun i=>(i.zero,i.size,i.bytes))=some (some sf0,4,56):=aL
theorem Tryz.infoSt:(prog.info? 86).map (fun i=>(i.zero,i.size,i.bytes))=some (some (.agg #[.int .u8 0,a6,.slice none 0 0]),3,48):=aL
section
open Go.Maps (Keyed)
def Rp(v:Value):Option (DataW Value × List MemPlace):=some (.held v,[])
def D5(P:Program)(k:TypeId)(z:Value)(w:World)(b n:Nat)(F:Lit->Value):Prop:=
 ∃D:DataW Value,w.ownsMap P k Rp b n D/\Go.Maps.IsMap D/\∀l,WideAt.IsKeyLit l->D.atKey l (.held z)=.held (F l)
section
variable {P:Program} {k:TypeId} {z:Value} {w w':World} {b n:Nat} {F:Lit->Value}
theorem D5.made(w:World)(P:Program)(k:TypeId)(z:Value):D5 P k z (w.alloc (.map #[] 0)) w 0 (fun _=>z):=
 ⟨.map [],World.ownsMap_made w P k Rp,Go.Maps.isMap_empty,fun l _=>rfl⟩
theorem D5.lt(h:D5 P k z w b n F):b<w.heap.size:=by
 obtain⟨D,h1,_⟩:=h;exact h1.lt
theorem D5.kept{row:Option Nat}(h:D5 P k z w b n F)(hg:w.grownBy w' row)(hne:some b≠row):D5 P k z w' b n F:=by
 obtain⟨D,h1,h2⟩:=h;exact⟨D,h1.kept hg hne,h2⟩
theorem D5.below(h:D5 P k z w b n F)(hb:Below w w w'):D5 P k z w' b n F:=
 h.kept (row:=none) ⟨hb.os,hb.tape,hb.output,hb.size,fun k hk _=>hb.block k hk⟩ aK
theorem D5.belowAt{B:Nat}(h:D5 P k z w b n F)(hlt:b<B)(hb:Below B w w'):D5 P k z w' b n F:=by
 obtain⟨D,⟨es,clock,h1,h2,h3,h4⟩,h5⟩:=h;exact⟨D,⟨es,clock,(hb.block b hlt).trans h1,h2,h3,h4⟩,h5⟩
theorem D5.alloc(h:D5 P k z w b n F)(o:Obj):D5 P k z (w.alloc o) b n F:=h.below ((Ap _ _).alloc (An _) o)
theorem D5.drew(h:D5 P k z w b n F):D5 P k z w.drew b n F:=h
theorem D5.mono(h:D5 P k z w b n F){n':Nat}(hn:n<=n'):D5 P k z w b n' F:=by
 obtain⟨D,h1,h2⟩:=h;exact⟨D,h1.mono hn,h2⟩
theorem D5.of_eq{G:Lit->Value}(h:D5 P k z w b n F)(e:∀l,WideAt.IsKeyLit l->F l=G l):D5 P k z w b n G:=by
 obtain⟨D,h1,h2,h3⟩:=h;exact⟨D,h1,h2,fun l hl=>by rw[h3 l hl,e l hl]⟩
theorem D5.lookup{t e:TypeId}(h:D5 P k z w b n F)(K:Keyed P k)(ht:P.underlying t=some (.map k e))(hz:(zeroValue e).run P w=.ok z w){key:Value}{kl:Lit}(hkey:keyOf P k key=some kl):
  (Instr.lookup t (.map (some b)) key false).run P w=.ok (F kl) w:=by
 obtain⟨D,h1,h2,h3⟩:=h;obtain⟨v,ps,hrun,hv⟩:=h1.lookup K ht hz (show Rp z=some (.held z,[])from rfl) hkey;rw[h3 kl (K.key hkey)]at hv;simp only[Rp,aj,aE,DataW.held.injEq]at hv;rw[hrun,hv.1]
theorem D5.store{t e:TypeId}(h:D5 P k z w b n F)(K:Keyed P k)(ht:P.underlying t=some (.map k e))(hn:n<maxLen){key:Value}(val:Value){kl:Lit}(hkey:keyOf P k key=some kl):
  ∃w',(Instr.mapUpdate t (.map (some b)) key val).run P w=.ok () w'/\D5 P k z w' b (n+1) (fun l=>if l.sameKey kl=true then val else F l)/\w.grownBy w' (some b):=by
 obtain⟨D,h1,h2,h3⟩:=h;obtain⟨w',hrun,r1,r2⟩:=h1.update K ht hn hkey (show Rp val=some (.held val,[])from rfl);refine⟨w',hrun,⟨_,r1,h2.put _ _,fun l hl=>?_⟩,r2⟩;by_cases e:l=kl
 ·subst e;rw[Go.Maps.atKey_put_same h2 hl];simp[WideAt.sameKey_self hl]
 rw[Go.Maps.atKey_put_other e,h3 l hl];simp[show l.sameKey kl=false from Go.Maps.sameKey_ne e]
end
abbrev Cw:=List UInt8
def Vr(S:List Ty):Nat->Kd->List Cw->List Cw
 |0,_,out=>out
 |n+1,k,out=>
  if k.base=[64]/\k.name∉out then
   (match Bt S k.name with
    |none=>out++[k.name]
    |some t=>if t.sort=69 then out++[k.name]else t.fields.foldl (fun o f=>Vr S n f.kind o) (out++[k.name]))
  else out
def Gf(S:List Ty):List Cw:=S.map (·.name)
theorem Gs{S:List Ty}{n:Cw}:(Bt S n).isSome=true↔n∈Gf S:=by
 unfold Bt Gf;rw[List.find?_isSome];simp
def Qgc(S:List Ty)(out:List Cw):Prop:=out.Nodup/\∀x∈out,x∈Gf S
theorem Qgc.nil(S:List Ty):Qgc S []:=⟨List.nodup_nil,by simp⟩
theorem Qh0:∀(l m:List Cw),l.Nodup->(∀x∈l,x∈m)->l.length<=m.length
 |[],m,_,_=>ag _
 |x::l,m,hn,hs=>by
  obtain⟨h1,h2⟩:=List.nodup_cons.1 hn;have hx:=hs x aK
  have ih:=Qh0 l (m.erase x) h2 (fun y hy=>by
   have hne:y≠x:=by rintro rfl;exact h1 hy
   exact(List.mem_erase_of_ne hne).2 (hs y fy))
  have hl:=List.length_erase_of_mem hx;have hp:0<m.length:=List.length_pos_iff.2 (by rintro rfl;cases hx);simp;omega
theorem Qgc.len{S:List Ty}{out:List Cw}(h:Qgc S out):out.length<=S.length:=by
 have:=Qh0 out (Gf S) h.1 h.2;simpa [Gf]using this
theorem Qgc.snoc{S:List Ty}{out:List Cw}{x:Cw}(h:Qgc S out)(hx:x∈Gf S)(hn:x∉out):Qgc S (out++[x]):=by
 refine⟨?_,?_⟩
 ·rw[List.nodup_append];refine⟨h.1,by simp,?_⟩;intro a ha b hb;simp at hb;subst hb;rintro rfl;exact hn ha
 intro y hy;rcases af.1 hy with hy|hy
 ·exact h.2 y hy
 simp at hy;subst hy;exact hx
inductive Vl where
 |mk (what:UInt8) (text:List UInt8) (tag:Nat) (kids:List Vl)
def Vl.what:Vl->UInt8|.mk w _ _ _=>w
def Vl.text:Vl->List UInt8|.mk _ t _ _=>t
def Vl.tag:Vl->Nat|.mk _ _ g _=>g
def Vl.kids:Vl->List Vl|.mk _ _ _ k=>k
def Jg(w:UInt8)(tx:List UInt8)(tg:Nat)(ps:List (List UInt8)):List UInt8:=
 if w=116 then 39::(tx++[39])
 else if w=91 then 91::(Aw 44 ps++[93])
 else if w=63 then(match ps with|[]=>[45]|_=>43::Aw 44 ps)
 else if w=61 then Bb tg++61::Aw 44 ps
 else if w=82 then 123::(Aw 44 ps++[125])
 else if w=85 then 60::(Bb tg++61::(Aw 44 ps++[62]))
 else if w=69 then 35::Bb tg
 else tx
mutual
def Bc:Vl->List UInt8
 |.mk w tx tg ks=>Jg w tx tg (Ed ks)
def Ed:List Vl->List (List UInt8)
 |[]=>[]
 |x::xs=>Bc x::Ed xs
end
theorem Vg:∀ks:List Vl,Ed ks=ks.map Bc
 |[]=>rfl
 |x::xs=>by rw[Ed,Vg xs];rfl
mutual
def Nt:Vl->Nat
 |.mk w _ _ ks=>if w=61 then J7 ks else J7 ks+1
def J7:List Vl->Nat
 |[]=>0
 |x::xs=>max (Nt x) (J7 xs)
end
theorem Yo:∀(ks:List Vl) (d:Nat),J7 ks<=d↔∀x∈ks,Nt x<=d
 |[],d=>by simp[J7]
 |x::xs,d=>by rw[J7,Nat.max_le,Yo xs d];simp
def Fa:List UInt8:=[121,101,115]
def Nq:List UInt8:=[110,111]
def Dr(p:Fd × Vl):Vl:=.mk 61 [] p.1.tag [p.2]
inductive Jf(S:List Ty):Nat->Kd->Vl->Prop
 |n {d:Nat} {k:Kd} {m:Nat} (hs:k.signs=[]) (hb:k.base=[110]) (h:m<=999999):Jf S (d+1) k (.mk 110 (Bb m) 0 [])
 |t {d:Nat} {k:Kd} {s:List UInt8} (hs:k.signs=[]) (hb:k.base=[116]) (h:Dy s=true):Jf S (d+1) k (.mk 116 s 0 [])
 |f {d:Nat} {k:Kd} {b:Bool} (hs:k.signs=[]) (hb:k.base=[102]):Jf S (d+1) k (.mk 102 (if b then Fa else Nq) 0 [])
 |lst {d:Nat} {k:Kd} {r:List UInt8} {ks:List Vl} (hs:k.signs=91::r) (hl:ks.length<=20) (h:∀x∈ks,Jf S d k.part x):Jf S (d+1) k (.mk 91 [] 0 ks)
 |non {d:Nat} {k:Kd} {r:List UInt8} (hs:k.signs=63::r):Jf S (d+1) k (.mk 63 [] 0 [])
 |som {d:Nat} {k:Kd} {r:List UInt8} {x:Vl} (hs:k.signs=63::r) (h:Jf S d k.part x):Jf S (d+1) k (.mk 63 [] 0 [x])
 |enm {d:Nat} {k:Kd} {t:Ty} {f:Fd} (hs:k.signs=[]) (hb:k.base=[64]) (ht:Bt S k.name=some t) (h9:t.sort=69) (hf:Av t.fields f.tag=some f):Jf S (d+1) k (.mk 69 [] f.tag [])
 |uni {d:Nat} {k:Kd} {t:Ty} {f:Fd} {x:Vl} (hs:k.signs=[]) (hb:k.base=[64]) (ht:Bt S k.name=some t) (h5:t.sort=85) (hf:Av t.fields f.tag=some f) (h:Jf S d f.kind x):Jf S (d+1) k (.mk 85 [] f.tag [x])
 |rcd {d:Nat} {k:Kd} {t:Ty} {fs:List (Fd × Vl)} (hs:k.signs=[]) (hb:k.base=[64]) (ht:Bt S k.name=some t) (h2:t.sort=82) (hf:∀p∈fs,Av t.fields p.1.tag=some p.1) (h:∀p∈fs,Jf S d p.1.kind p.2)
   (hn:∀p∈fs,Bc p.2≠J4 S p.1) (hp:fs.Pairwise fun p q=>p.1.tag<q.1.tag):Jf S (d+1) k (.mk 82 [] 0 (fs.map Dr))
theorem Ql6(p:Fd × Vl):Nt (Dr p)=Nt p.2:=by simp[Dr,Nt,J7]
theorem G8(S:List Ty):∀(n:Nat) (k:Kd) (v:Vl),Jf S n k v->∀d,Jf S d k v↔Nt v<=d:=by
 intro n;induction n with
 |zero=>intro k v h;cases h
 |succ n ih=>
  intro k v h d;cases d with
  |zero=>
   constructor
   ·intro h;cases h
   intro hd;cases h<;>simp[Nt]at hd
  |succ d=>
   cases h with
   |n hs hb h=>exact⟨fun _=>by simp[Nt,J7],fun _=>.n hs hb h⟩
   |t hs hb h=>exact⟨fun _=>by simp[Nt,J7],fun _=>.t hs hb h⟩
   |f hs hb=>exact⟨fun _=>by simp[Nt,J7],fun _=>.f hs hb⟩
   |non hs=>exact⟨fun _=>by simp[Nt,J7],fun _=>.non hs⟩
   |enm hs hb ht h9 hf=>exact⟨fun _=>by simp[Nt,J7],fun _=>.enm hs hb ht h9 hf⟩
   |@lst _ _ r ks hs hl h=>
    have e:Nt (.mk 91 [] 0 ks)<=d+1↔∀x∈ks,Nt x<=d:=by rw[<-Yo];simp[Nt]
    rw[e];constructor
    ·intro hv x hx;cases hv with
     |lst _ _ h2=>exact(ih _ _ (h x hx) d).1 (h2 x hx)
    intro hv;exact .lst hs hl fun x hx=>(ih _ _ (h x hx) d).2 (hv x hx)
   |@som _ _ r x hs h=>
    have e:Nt (.mk 63 [] 0 [x])<=d+1↔Nt x<=d:=by simp[Nt,J7]
    rw[e];constructor
    ·intro hv;cases hv with
     |som _ h2=>exact(ih _ _ h d).1 h2
    intro hv;exact .som hs ((ih _ _ h d).2 hv)
   |@uni _ _ t f x hs hb ht h5 hf h=>
    have e:Nt (.mk 85 [] f.tag [x])<=d+1↔Nt x<=d:=by simp[Nt,J7]
    rw[e];constructor
    ·intro hv;generalize hg:f.tag=g at hv;cases hv with
     |uni hs2 hb2 ht2 h52 hf2 h2=>
      rw[ht]at ht2;injection ht2 with ht2;subst ht2;rw[<-hg,hf]at hf2;injection hf2 with hf2;subst hf2;exact(ih _ _ h d).1 h2
    intro hv;exact .uni hs hb ht h5 hf ((ih _ _ h d).2 hv)
   |@rcd _ _ t fs hs hb ht h2 hf h hn hp=>
    have e:Nt (.mk 82 [] 0 (fs.map Dr))<=d+1↔∀p∈fs,Nt p.2<=d:=by
     have:Nt (.mk 82 [] 0 (fs.map Dr))=J7 (fs.map Dr)+1:=by simp[Nt]
     rw[this,Nat.succ_le_succ_iff,Yo];constructor
     ·intro h p hp;have:=h _ (ap hp);rwa [Ql6]at this
     intro h x hx;obtain⟨p,hp,rfl⟩:=ax.1 hx;rw[Ql6];exact h p hp
    rw[e];constructor
    ·intro hv p hp;generalize hg:fs.map Dr=ks at hv;cases hv with
     |@rcd _ _ t2 fs2 hs2 hb2 ht2 h22 hf2 h2 hn2 hp2=>
      rw[ht]at ht2;injection ht2 with ht2;subst ht2;have hm:Dr p∈fs2.map Dr:=hg ▸ ap hp;obtain⟨q,hq,eq⟩:=ax.1 hm;have e1:q.1.tag=p.1.tag:=by injection eq
      have e2:q.2=p.2:=by injection eq with _ _ _ e4;injection e4
      have e3:q.1=p.1:=by have:=hf2 q hq;rw[e1,hf p hp]at this;injection this with this;exact this.symm
      have:=h2 q hq;rw[e2,e3]at this;exact(ih _ _ (h p hp) d).1 this
    intro hv;exact .rcd hs hb ht h2 hf (fun p hp=>(ih _ _ (h p hp) d).2 (hv p hp)) hn hp
def Tf(s:List UInt8):Option (Nat × List UInt8):=match Dc (s.takeWhile Bn)with
 |some n=>some (n,s.dropWhile Bn)
 |none=>none
def Jb(fs:List Fd)(s:List UInt8):Option (Fd × List UInt8):=match Tf s with
 |some (n,r)=>if n<=200 then(match Av fs n with|some f=>some (f,r)|none=>none)else none
 |none=>none
def Au(c:UInt8):List UInt8->Option (List UInt8)
 |x::r=>if x=c then some r else none
 |[]=>none
def Pi(s:List UInt8):Option (List UInt8 × List UInt8):=match Au 39 s with
 |none=>none
 |some r=>match Au 39 (r.dropWhile Ct)with
  |none=>none
  |some q=>if (r.takeWhile Ct).length<=12 then some (r.takeWhile Ct,q)else none
def Gv:List UInt8->List UInt8->Option (List UInt8)
 |[],s=>some s
 |c::p,s=>match Au c s with|none=>none|some r=>Gv p r
def Rw(s:List UInt8):Option (Bool × List UInt8):=match Gv Fa s with
 |some r=>some (true,r)
 |none=>match Gv Nq s with|some r=>some (false,r)|none=>none
def Dl(K:List UInt8->Option (Vl × List UInt8)):Nat->List UInt8->Option (List Vl × List UInt8)
 |0,_=>none
 |m+1,s=>match K s with
  |none=>none
  |some (v,r)=>match Au 44 r with
   |some q=>(match Dl K m q with|some (vs,z)=>some (v::vs,z)|none=>none)
   |none=>match Au 93 r with|some q=>some ([v],q)|none=>none
def Yl(K:List UInt8->Option (Vl × List UInt8))(m:Nat)(s:List UInt8):Option (Vl × List UInt8):=match Au 91 s with
 |none=>none
 |some r=>match Au 93 r with
  |some q=>some (.mk 91 [] 0 [],q)
  |none=>match Dl K m r with|some (vs,q)=>if vs.length<=20 then some (.mk 91 [] 0 vs,q)else none|none=>none
def Qeh(K:List UInt8->Option (Vl × List UInt8))(s:List UInt8):Option (Vl × List UInt8):=match Au 45 s with
 |some q=>some (.mk 63 [] 0 [],q)
 |none=>match Au 43 s with
  |none=>none
  |some r=>match K r with|some (v,q)=>some (.mk 63 [] 0 [v],q)|none=>none
def Do(K:Kd->List UInt8->Option (Vl × List UInt8))(fs:List Fd)(s:List UInt8):Option ((Fd × Vl) × List UInt8):=match Jb fs s with
 |none=>none
 |some (f,r)=>match Au 61 r with
  |none=>none
  |some q=>match K f.kind q with|some (v,z)=>some ((f,v),z)|none=>none
def Es(S:List Ty)(K:Kd->List UInt8->Option (Vl × List UInt8))(fs:List Fd):Nat->Nat->List UInt8->Option (List (Fd × Vl) × List UInt8)
 |0,_,_=>none
 |m+1,last,s=>match Do K fs s with
  |none=>none
  |some (p,r)=>if p.1.tag<=last\/Bc p.2=J4 S p.1 then none else match Au 44 r with
   |some q=>(match Es S K fs m p.1.tag q with|some (ps,z)=>some (p::ps,z)|none=>none)
   |none=>match Au 125 r with|some q=>some ([p],q)|none=>none
def Mg(S:List Ty)(K:Kd->List UInt8->Option (Vl × List UInt8))(t:Ty)(s:List UInt8):Option (Vl × List UInt8):=
 if t.sort=69 then(match Au 35 s with
  |none=>none
  |some r=>match Jb t.fields r with|some (f,q)=>some (.mk 69 [] f.tag [],q)|none=>none)
 else if t.sort=85 then(match Au 60 s with
  |none=>none
  |some r=>match Do K t.fields r with
   |none=>none
   |some (p,q)=>match Au 62 q with|some z=>some (.mk 85 [] p.1.tag [p.2],z)|none=>none)
 else match Au 123 s with
  |none=>none
  |some r=>match Au 125 r with
   |some q=>some (.mk 82 [] 0 [],q)
   |none=>match Es S K t.fields 201 0 r with|some (ps,q)=>some (.mk 82 [] 0 (ps.map Dr),q)|none=>none
def Ar(S:List Ty)(m:Nat):Nat->Kd->List UInt8->Option (Vl × List UInt8)
 |0,_,_=>none
 |d+1,k,s=>match k.signs with
  |c::_=>if c=91 then Yl (Ar S m d k.part) m s else Qeh (Ar S m d k.part) s
  |[]=>
   if k.base=[110]then(match Tf s with|some (n,r)=>some (.mk 110 (Bb n) 0 [],r)|none=>none)
   else if k.base=[116]then(match Pi s with|some (x,r)=>some (.mk 116 x 0 [],r)|none=>none)
   else if k.base=[102]then(match Rw s with|some (b,r)=>some (.mk 102 (if b then Fa else Nq) 0 [],r)|none=>none)
   else match Bt S k.name with
    |none=>none
    |some t=>Mg S (Ar S m d) t s
theorem Cy{c:UInt8}{s r:List UInt8}:Au c s=some r↔s=c::r:=by
 cases s with
 |nil=>simp[Au]
 |cons x t=>
  by_cases h:x=c
  ·subst h;simp[Au]
  simp[Au,h]
theorem Bw(c:UInt8)(r:List UInt8):Au c (c::r)=some r:=if_pos rfl
theorem Ds{c x:UInt8}(h:x≠c)(r:List UInt8):Au c (x::r)=none:=if_neg h
theorem G0{p s r:List UInt8}:Gv p s=some r↔s=p++r:=by
 induction p generalizing s with
 |nil=>simp[Gv]
 |cons c p ih=>
  unfold Gv;cases h:Au c s with
  |none=>
   simp only[false_iff,reduceCtorEq];intro e;subst e;rw[av,Bw]at h;cases h
  |some q=>rw[Cy]at h;subst h;simp[ih]
def Sz(r:List UInt8):Prop:=∀c t,r=c::t->Bn c=false
theorem Pp:Sz []:=by intro c t h;cases h
theorem Kq{c:UInt8}(r:List UInt8)(h:Bn c=false):Sz (c::r):=by intro x t e;injection e with e;subst e;exact h
theorem Qiv{a r:List UInt8}(ha:a.all Bn=true)(hr:Sz r):(a++r).takeWhile Bn=a/\(a++r).dropWhile Bn=r:=by
 cases r with
 |nil=>
  rw[List.append_nil];induction a with
  |nil=>exact⟨rfl,rfl⟩
  |cons c a ih=>
   rw[List.all_cons,aw]at ha;obtain⟨i1,i2⟩:=ih ha.2;rw[List.takeWhile_cons_of_pos ha.1,List.dropWhile_cons_of_pos ha.1,i1,i2];exact kj
 |cons c t=>exact Gq ha ⟨c,t,rfl,hr c t rfl⟩
theorem Qb2{s r:List UInt8}{n:Nat}(h:Tf s=some (n,r)):n<=999999/\s=Bb n++r/\Sz r:=by
 unfold Tf at h;cases hd:Dc (s.takeWhile Bn)with
 |none=>rw[hd]at h;cases h
 |some m=>
  rw[hd]at h;simp only[aj,aE]at h;obtain⟨rfl,rfl⟩:=h;obtain⟨h1,h2⟩:=Co.1 hd;refine⟨h1,by rw[<-h2,List.takeWhile_append_dropWhile],fun c t e=>?_⟩;have:=List.head?_dropWhile_not Bn s;rw[e]at this;simpa using this
theorem Qej{n:Nat}{r:List UInt8}(h:n<=999999)(hr:Sz r):Tf (Bb n++r)=some (n,r):=by
 obtain⟨e1,e2⟩:=Qiv (Pq n) hr;unfold Tf;rw[e1,e2,Co.2 ⟨h,rfl⟩]
theorem Ax{fs:List Fd}{n:Nat}{f:Fd}(h:Av fs n=some f):f.tag=n/\f∈fs:=by
 unfold Av at h;have:=List.find?_some h;exact⟨by simpa using this,List.mem_of_find?_eq_some h⟩
theorem Km{fs:List Fd}{s r:List UInt8}{f:Fd}(h:Jb fs s=some (f,r)):f.tag<=200/\Av fs f.tag=some f/\s=Bb f.tag++r/\Sz r:=by
 unfold Jb at h;cases hn:Tf s with
 |none=>rw[hn]at h;cases h
 |some q=>
  obtain⟨n,z⟩:=q;rw[hn]at h;simp only at h;split at h
  ·rename_i h2;cases hf:Av fs n with
   |none=>rw[hf]at h;cases h
   |some g=>
    rw[hf]at h;simp only[aj,aE]at h;obtain⟨rfl,rfl⟩:=h;have e:=(Ax hf).1;obtain⟨_,e2,e3⟩:=Qb2 hn;rw[e];exact⟨h2,hf,e2,e3⟩
  cases h
theorem Qev{fs:List Fd}{f:Fd}{r:List UInt8}(h:f.tag<=200)(hf:Av fs f.tag=some f)(hr:Sz r):Jb fs (Bb f.tag++r)=some (f,r):=by
 unfold Jb;rw[Qej aH hr];simp[h,hf]
theorem Qet:Ct 39=false:=aJ
theorem Qbn{s b r:List UInt8}:Pi s=some (b,r)↔Dy b=true/\s=39::(b++39::r):=by
 unfold Pi;cases h:Au 39 s with
 |none=>
  simp only[reduceCtorEq,false_iff,not_and];rintro _ rfl;rw[Bw]at h;cases h
 |some q=>
  rw[Cy]at h;subst h;simp only[List.cons.injEq,true_and];cases h:Au 39 (q.dropWhile Ct)with
  |none=>
   simp only[reduceCtorEq,false_iff,not_and];rintro hb rfl;have hb2:b.all Ct=true:=by unfold Dy at hb;simp only[aw]at hb;exact hb.2
   rw[(Gq hb2 ⟨39,r,rfl,Qet⟩).2,Bw]at h;cases h
  |some z=>
   rw[Cy]at h;have eq:q=q.takeWhile Ct++39::z:=by rw[<-h,List.takeWhile_append_dropWhile]
   simp only;constructor
   ·intro h2;split at h2
    ·rename_i hl;simp only[aj,aE]at h2;obtain⟨rfl,rfl⟩:=h2;exact⟨by unfold Dy;simp only[aw];exact⟨by simpa using hl,Kz q⟩,eq⟩
    cases h2
   rintro⟨hb,rfl⟩;unfold Dy at hb;simp only[aw,decide_eq_true_eq]at hb;obtain⟨e1,e2⟩:=Gq hb.2 ⟨39,r,rfl,Qet⟩;rw[e2]at h;injection h with _ h;subst h;rw[e1,if_pos hb.1]
theorem Qae{s r:List UInt8}{b:Bool}:Rw s=some (b,r)↔s=(if b then Fa else Nq)++r:=by
 unfold Rw;cases h:Gv Fa s with
 |some q=>
  rw[G0]at h;subst h;cases b<;>simp[Fa,Nq]
 |none=>
  simp only;cases h2:Gv Nq s with
  |some q=>
   rw[G0]at h2;subst h2;cases b<;>simp[Fa,Nq]
  |none=>
   simp only[reduceCtorEq,false_iff];rintro rfl;cases b
   ·rw[show Gv Nq ((if false=true then Fa else Nq)++r)=some r from G0.2 rfl]at h2;cases h2
   rw[show Gv Fa ((if true=true then Fa else Nq)++r)=some r from G0.2 rfl]at h;cases h
theorem Qeo{K:List UInt8->Option (Vl × List UInt8)}{P:Vl->Prop}(hK:∀s v r,K s=some (v,r)->P v/\s=Bc v++r):∀(m:Nat) (s:List UInt8) (vs:List Vl) (r:List UInt8),
  Dl K m s=some (vs,r)->vs≠[]/\vs.length<=m/\(∀x∈vs,P x)/\s=Aw 44 (vs.map Bc)++93::r:=by
 intro m;induction m with
 |zero=>intro s vs r h;cases h
 |succ m ih=>
  intro s vs r h;unfold Dl at h;cases hk:K s with
  |none=>rw[hk]at h;cases h
  |some q=>
   obtain⟨v,z⟩:=q;rw[hk]at h;simp only at h;obtain⟨hp,rfl⟩:=hK _ _ _ hk;cases hb:Au 44 z with
   |some q=>
    rw[hb]at h;simp only at h;cases hi:Dl K m q with
    |none=>rw[hi]at h;cases h
    |some y=>
     obtain⟨us,y⟩:=y;rw[hi]at h;simp only[aj,aE]at h;obtain⟨rfl,rfl⟩:=h;obtain⟨h1,h2,h3,h4⟩:=ih _ _ _ hi;rw[Cy]at hb;subst hb;refine⟨by simp,by simp;omega,by simpa using⟨hp,h3⟩,?_⟩;rw[ay,De 44 _ fh,h4];simp
   |none=>
    rw[hb]at h;simp only at h;cases hb:Au 93 z with
    |none=>rw[hb]at h;cases h
    |some q=>
     rw[hb]at h;simp only[aj,aE]at h;obtain⟨rfl,rfl⟩:=h;rw[Cy]at hb;subst hb;exact⟨by simp,by simp,by simpa using hp,by simp[Aw]⟩
theorem Xv{K:List UInt8->Option (Vl × List UInt8)}:∀(m:Nat) (vs:List Vl) (r:List UInt8),(∀x∈vs,∀r,Sz r->K (Bc x++r)=some (x,r))->vs≠[]->vs.length<=m ->
  Dl K m (Aw 44 (vs.map Bc)++93::r)=some (vs,r)
 |0,vs,r,_,h,hl=>by cases vs with|nil=>exact absurd rfl h|cons=>simp at hl
 |m+1,[],r,_,h,_=>absurd rfl h
 |m+1,[x],r,hK,_,_=>by
  have e:=hK x aK (93::r) (Kq _ aJ);simp only[ay,List.map_nil,Aw];unfold Dl;rw[e];simp only[Ds (show (93:UInt8)≠44 by decide),Bw]
 |m+1,x::y::vs,r,hK,_,hl=>by
  have ih:=Xv m (y::vs) r (fun z hz=>hK z fw) aK gn;have e:=hK x aK (44::(Aw 44 ((y::vs).map Bc)++93::r)) (Kq _ aJ);rw[ay,De 44 _ aK,List.append_assoc,av];unfold Dl;rw[e];simp only[Bw,ih]
theorem Tg{K:Kd->List UInt8->Option (Vl × List UInt8)}{P:Fd->Vl->Prop}{fs:List Fd}(hK:∀f∈fs,∀s v r,K f.kind s=some (v,r)->P f v/\s=Bc v++r){s r:List UInt8}{p:Fd × Vl}
  (h:Do K fs s=some (p,r)):p.1.tag<=200/\Av fs p.1.tag=some p.1/\P p.1 p.2/\s=Bc (Dr p)++r:=by
 unfold Do at h;cases ht:Jb fs s with
 |none=>rw[ht]at h;cases h
 |some q=>
  obtain⟨f,z⟩:=q;rw[ht]at h;simp only at h;obtain⟨h1,h2,rfl,_⟩:=Km ht;cases hb:Au 61 z with
  |none=>rw[hb]at h;cases h
  |some q=>
   rw[hb]at h;simp only at h;rw[Cy]at hb;subst hb;cases hk:K f.kind q with
   |none=>rw[hk]at h;cases h
   |some y=>
    obtain⟨v,y⟩:=y;rw[hk]at h;simp only[aj,aE]at h;obtain⟨rfl,rfl⟩:=h;obtain⟨h3,rfl⟩:=hK f (Ax h2).2 _ _ _ hk;exact⟨h1,h2,h3,by simp[Dr,Bc,Ed,Jg,Aw]⟩
theorem Te{K:Kd->List UInt8->Option (Vl × List UInt8)}{fs:List Fd}{p:Fd × Vl}{r:List UInt8}(h1:p.1.tag<=200)(h2:Av fs p.1.tag=some p.1)(hK:K p.1.kind (Bc p.2++r)=some (p.2,r)):
  Do K fs (Bc (Dr p)++r)=some (p,r):=by
 have e:Bc (Dr p)++r=Bb p.1.tag++(61::(Bc p.2++r)):=by simp[Dr,Bc,Ed,Jg,Aw]
 rw[e];unfold Do;rw[Qev h1 h2 (Kq _ aJ)];simp only[Bw,hK]
theorem Qhe{S:List Ty}{K:Kd->List UInt8->Option (Vl × List UInt8)}{P:Fd->Vl->Prop}{fs:List Fd}(hK:∀f∈fs,∀s v r,K f.kind s=some (v,r)->P f v/\s=Bc v++r):∀(m last:Nat) (s:List UInt8) (ps:List (Fd × Vl)) (r:List UInt8),
  Es S K fs m last s=some (ps,r)->ps≠[]/\(∀p∈ps,last<p.1.tag/\Av fs p.1.tag=some p.1/\P p.1 p.2/\Bc p.2≠J4 S p.1)/\(ps.Pairwise fun p q=>p.1.tag<q.1.tag)/\s=Aw 44 (ps.map fun p=>Bc (Dr p))++125::r:=by
 intro m;induction m with
 |zero=>intro last s ps r h;cases h
 |succ m ih=>
  intro last s ps r h;unfold Es at h;cases hk:Do K fs s with
  |none=>rw[hk]at h;cases h
  |some q=>
   obtain⟨p,z⟩:=q;rw[hk]at h;simp only at h;obtain⟨h1,h2,h3,rfl⟩:=Tg hK hk;split at h
   ·cases h
   rename_i hno;have hno1:last<p.1.tag:=aH;have hno2:Bc p.2≠J4 S p.1:=fun e=>hno (.inr e);cases hb:Au 44 z with
   |some q=>
    rw[hb]at h;simp only at h;cases hi:Es S K fs m p.1.tag q with
    |none=>rw[hi]at h;cases h
    |some y=>
     obtain⟨us,y⟩:=y;rw[hi]at h;simp only[aj,aE]at h;obtain⟨rfl,rfl⟩:=h;obtain⟨i1,i2,i3,i4⟩:=ih _ _ _ _ hi;rw[Cy]at hb;subst hb;refine⟨by simp,?_,?_,?_⟩
     ·intro x hx;rcases aA.1 hx with rfl|hx
      ·exact⟨hno1,h2,h3,hno2⟩
      obtain⟨j1,j2⟩:=i2 x hx;exact⟨by omega,j2⟩
     ·exact List.pairwise_cons.2 ⟨fun x hx=>(i2 x hx).1,i3⟩
     rw[ay,De 44 _ (by simpa using i1),i4];simp
   |none=>
    rw[hb]at h;simp only at h;cases hb:Au 125 z with
    |none=>rw[hb]at h;cases h
    |some q=>
     rw[hb]at h;simp only[aj,aE]at h;obtain⟨rfl,rfl⟩:=h;rw[Cy]at hb;subst hb;refine⟨by simp,?_,by simp,by simp[Aw]⟩;intro x hx;rw[aq]at hx;subst hx;exact⟨hno1,h2,h3,hno2⟩
theorem Qau{S:List Ty}{K:Kd->List UInt8->Option (Vl × List UInt8)}{fs:List Fd}:∀(m last:Nat) (ps:List (Fd × Vl)) (r:List UInt8),
  (∀p∈ps,∀r,Sz r->K p.1.kind (Bc p.2++r)=some (p.2,r))->ps≠[]->(∀p∈ps,last<p.1.tag/\p.1.tag<=200/\Av fs p.1.tag=some p.1/\Bc p.2≠J4 S p.1)->(ps.Pairwise fun p q=>p.1.tag<q.1.tag)->201<=m+last ->
  Es S K fs m last (Aw 44 (ps.map fun p=>Bc (Dr p))++125::r)=some (ps,r)
 |0,last,[],r,_,h,_,_,_=>absurd rfl h
 |0,last,p::ps,r,_,_,hp,_,hl=>by have:=hp p aK;omega
 |m+1,last,[],r,_,h,_,_,_=>absurd rfl h
 |m+1,last,[p],r,hK,_,hp,_,hl=>by
  obtain⟨h1,h2,h3,h4⟩:=hp p aK;have e:=Te h2 h3 (hK p aK (125::r) (Kq _ aJ));simp only[ay,List.map_nil,Aw];unfold Es;rw[e];simp only;rw[if_neg cY];simp only[Ds (show (125:UInt8)≠44 by decide),Bw]
 |m+1,last,p::q::ps,r,hK,_,hp,hw,hl=>by
  obtain⟨h1,h2,h3,h4⟩:=hp p aK;obtain⟨w1,w2⟩:=List.pairwise_cons.1 hw;have ih:=Qau m p.1.tag (q::ps) r (fun z hz=>hK z fw) aK (fun z hz=>⟨w1 z hz,(hp z fw).2⟩) w2 aH;have e:=Te (K:=K) h2 h3 (hK p aK (44::(Aw 44 ((q::ps).map fun p=>Bc (Dr p))++125::r)) (Kq _ aJ));rw[ay,De 44 _ aK,List.append_assoc,av];unfold Es;rw[e];simp only;rw[if_neg cY];simp only[Bw,ih]
theorem Ro{k:Kd}(h:Cq k){c:UInt8}{t:List UInt8}(hs:k.signs=c::t):c=91\/c=63:=by
 have:=h.1;rw[hs]at this;simp only[List.all_cons,aw,Bo,Bool.or_eq_true,beq_iff_eq]at this;exact this.1
theorem Nl{S:List Ty}(hS:∀t∈S,Ft t){n:List UInt8}{t:Ty}(ht:Bt S n=some t)(h9:t.sort≠69){f:Fd}(hf:f∈t.fields):Cq f.kind/\f.tag<=200:=by
 have h:=(hS t (Cp ht).1).2.2.1.1 f hf;exact⟨(h.2.2.2.2 h9).1,h.2.1⟩
theorem Mu(fs:List (Fd × Vl)):Bc (.mk 82 [] 0 (fs.map Dr))=123::(Aw 44 (fs.map fun p=>Bc (Dr p))++[125]):=by
 simp[Bc,Vg,Jg];rfl
theorem Jt(ks:List Vl):Bc (.mk 91 [] 0 ks)=91::(Aw 44 (ks.map Bc)++[93]):=by simp[Bc,Vg,Jg]
theorem Ts(f:Fd)(x:Vl):Bc (.mk 85 [] f.tag [x])=60::(Bc (Dr (f,x))++[62]):=by simp[Bc,Ed,Jg,Dr,Aw]
theorem G9{S:List Ty}(hS:∀t∈S,Ft t)(m:Nat):∀(d:Nat) (k:Kd) (s:List UInt8) (v:Vl) (r:List UInt8),Cq k->Ar S m d k s=some (v,r)->Jf S d k v/\s=Bc v++r:=by
 intro d;induction d with
 |zero=>intro k s v r _ h;cases h
 |succ d ih=>
  intro k s v r hk h;unfold Ar at h;cases hs:k.signs with
  |cons c t=>
   rw[hs]at h;simp only at h;have hp:=(Kc hk).1;by_cases h91:c=91
   ·subst h91;rw[if_pos rfl]at h;unfold Yl at h;cases hb:Au 91 s with
    |none=>rw[hb]at h;cases h
    |some q=>
     rw[hb]at h;simp only at h;rw[Cy]at hb;subst hb;cases hb:Au 93 q with
     |some z=>
      rw[hb]at h;simp only[aj,aE]at h;obtain⟨rfl,rfl⟩:=h;rw[Cy]at hb;subst hb;exact⟨.lst hs aK aK,by rw[Jt];rfl⟩
     |none=>
      rw[hb]at h;simp only at h;cases hi:Dl (Ar S m d k.part) m q with
      |none=>rw[hi]at h;cases h
      |some y=>
       obtain⟨us,y⟩:=y;rw[hi]at h;simp only at h;split at h
       ·rename_i hl;simp only[aj,aE]at h;obtain⟨rfl,rfl⟩:=h;obtain⟨_,_,i3,i4⟩:=Qeo (P:=Jf S d k.part) (fun s v r h=>ih _ _ _ _ hp h) _ _ _ _ hi;exact⟨.lst hs hl i3,by rw[Jt,i4];simp⟩
       cases h
   have h63:=(Ro hk hs).resolve_left h91;subst h63;rw[if_neg h91]at h;unfold Qeh at h;cases hb:Au 45 s with
   |some q=>
    rw[hb]at h;simp only[aj,aE]at h;obtain⟨rfl,rfl⟩:=h;rw[Cy]at hb;subst hb;exact⟨.non hs,rfl⟩
   |none=>
    rw[hb]at h;simp only at h;cases hb:Au 43 s with
    |none=>rw[hb]at h;cases h
    |some q=>
     rw[hb]at h;simp only at h;rw[Cy]at hb;subst hb;cases hi:Ar S m d k.part q with
     |none=>rw[hi]at h;cases h
     |some y=>
      obtain⟨x,y⟩:=y;rw[hi]at h;simp only[aj,aE]at h;obtain⟨rfl,rfl⟩:=h;obtain⟨i1,rfl⟩:=ih _ _ _ _ hp hi;exact⟨.som hs i1,by simp[Bc,Ed,Jg,Aw]⟩
  |nil=>
   rw[hs]at h;simp only at h;split at h
   ·rename_i hb;cases hn:Tf s with
    |none=>rw[hn]at h;cases h
    |some q=>
     obtain⟨n,q⟩:=q;rw[hn]at h;simp only[aj,aE]at h;obtain⟨rfl,rfl⟩:=h;obtain⟨h1,h2,_⟩:=Qb2 hn;exact⟨.n hs hb h1,by rw[h2];simp[Bc,Ed,Jg]⟩
   split at h
   ·rename_i hb;cases hn:Pi s with
    |none=>rw[hn]at h;cases h
    |some q=>
     obtain⟨x,q⟩:=q;rw[hn]at h;simp only[aj,aE]at h;obtain⟨rfl,rfl⟩:=h;obtain⟨h1,rfl⟩:=Qbn.1 hn;exact⟨.t hs hb h1,by simp[Bc,Ed,Jg]⟩
   split at h
   ·rename_i hb;cases hn:Rw s with
    |none=>rw[hn]at h;cases h
    |some q=>
     obtain⟨x,q⟩:=q;rw[hn]at h;simp only[aj,aE]at h;obtain⟨rfl,rfl⟩:=h;have:=Qae.1 hn;exact⟨.f hs hb,by rw[this];simp[Bc,Ed,Jg]⟩
   rename_i b1 b2 b3;have hb:k.base=[64]:=by
    rcases hk.2.1 with h|⟨h|h|h,_⟩
    ·exact h.1
    ·exact absurd h b1
    ·exact absurd h b2
    exact absurd h b3
   cases ht:Bt S k.name with
   |none=>rw[ht]at h;cases h
   |some t=>
    rw[ht]at h;simp only at h;unfold Mg at h;by_cases h9:t.sort=69
    ·rw[if_pos h9]at h;cases hb3:Au 35 s with
     |none=>rw[hb3]at h;cases h
     |some q=>
      rw[hb3]at h;simp only at h;rw[Cy]at hb3;subst hb3;cases hg:Jb t.fields q with
      |none=>rw[hg]at h;cases h
      |some y=>
       obtain⟨f,y⟩:=y;rw[hg]at h;simp only[aj,aE]at h;obtain⟨rfl,rfl⟩:=h;obtain⟨_,h2,h3,_⟩:=Km hg;exact⟨.enm hs hb ht h9 h2,by rw[h3];simp[Bc,Ed,Jg]⟩
    rw[if_neg h9]at h;have hK:∀f∈t.fields,∀s v r,Ar S m d f.kind s=some (v,r)->Jf S d f.kind v/\s=Bc v++r:=fun f hf s v r hr=>ih _ _ _ _ (Nl hS ht h9 hf).1 hr;by_cases h5:t.sort=85
    ·rw[if_pos h5]at h;cases hb3:Au 60 s with
     |none=>rw[hb3]at h;cases h
     |some q=>
      rw[hb3]at h;simp only at h;rw[Cy]at hb3;subst hb3;cases hg:Do (Ar S m d) t.fields q with
      |none=>rw[hg]at h;cases h
      |some y=>
       obtain⟨p,y⟩:=y;rw[hg]at h;simp only at h;cases hb4:Au 62 y with
       |none=>rw[hb4]at h;cases h
       |some z=>
        rw[hb4]at h;simp only[aj,aE]at h;obtain⟨rfl,rfl⟩:=h;rw[Cy]at hb4;subst hb4;obtain⟨_,h2,h3,rfl⟩:=Tg (P:=fun f v=>Jf S d f.kind v) hK hg;exact⟨.uni hs hb ht h5 h2 h3,by rw[Ts];simp⟩
    rw[if_neg h5]at h;have h2:t.sort=82:=by
     rcases(hS t (Cp ht).1).1 with h|h|h
     ·exact h
     ·exact absurd h h5
     exact absurd h h9
    cases hb3:Au 123 s with
    |none=>rw[hb3]at h;cases h
    |some q=>
     rw[hb3]at h;simp only at h;rw[Cy]at hb3;subst hb3;cases hb4:Au 125 q with
     |some z=>
      rw[hb4]at h;simp only[aj,aE]at h;obtain⟨rfl,rfl⟩:=h;rw[Cy]at hb4;subst hb4;exact⟨.rcd (fs:=[]) hs hb ht h2 aK aK aK aK,rfl⟩
     |none=>
      rw[hb4]at h;simp only at h;cases hg:Es S (Ar S m d) t.fields 201 0 q with
      |none=>rw[hg]at h;cases h
      |some y=>
       obtain⟨ps,y⟩:=y;rw[hg]at h;simp only[aj,aE]at h;obtain⟨rfl,rfl⟩:=h;obtain⟨_,i2,i3,i4⟩:=Qhe (P:=fun f v=>Jf S d f.kind v) hK _ _ _ _ _ hg;exact⟨.rcd hs hb ht h2 (fun p hp=>(i2 p hp).2.1) (fun p hp=>(i2 p hp).2.2.1) (fun p hp=>(i2 p hp).2.2.2) i3,by rw[Mu,i4];simp⟩
theorem Qek{S:List Ty}{d:Nat}{k:Kd}{v:Vl}(h:Jf S d k v):∃c t,Bc v=c::t/\c≠93/\c≠125/\c≠44:=by
 cases h with
 |@n _ _ m hs hb h=>
  have e:Bc (.mk 110 (Bb m) 0 [])=Bb m:=by simp[Bc,Ed,Jg]
  rw[e];cases hd:Bb m with
  |nil=>exact absurd hd (Vi m)
  |cons c t=>
   have:=Pq m;rw[hd,List.all_cons,aw,D3]at this;refine⟨c,t,rfl,?_,?_,?_⟩<;>(rintro rfl;revert this;simp)
 |t=>exact⟨39,_,rfl,by decide,by decide,by decide⟩
 |@f _ _ b=>cases b<;>exact⟨_,_,rfl,by decide,by decide,by decide⟩
 |lst=>exact⟨91,_,rfl,by decide,by decide,by decide⟩
 |non=>exact⟨45,_,rfl,by decide,by decide,by decide⟩
 |som=>exact⟨43,_,rfl,by decide,by decide,by decide⟩
 |enm=>exact⟨35,_,rfl,by decide,by decide,by decide⟩
 |uni=>exact⟨60,_,rfl,by decide,by decide,by decide⟩
 |rcd=>exact⟨123,_,rfl,by decide,by decide,by decide⟩
theorem Ng{S:List Ty}(hS:∀t∈S,Ft t){m:Nat}(hm:20<=m):∀(d:Nat) (k:Kd) (v:Vl) (r:List UInt8),Jf S d k v->Sz r->Ar S m d k (Bc v++r)=some (v,r):=by
 intro d;induction d with
 |zero=>intro k v r h;cases h
 |succ d ih=>
  intro k v r h hr;unfold Ar;cases h with
  |@n _ _ n hs hb h=>
   rw[hs];simp only;rw[if_pos hb];have e:Bc (.mk 110 (Bb n) 0 [])=Bb n:=by simp[Bc,Ed,Jg]
   rw[e,Qej h hr]
  |@t _ _ s hs hb h=>
   rw[hs];simp only;rw[if_neg bL,if_pos hb];rw[show Pi (Bc (.mk 116 s 0 [])++r)=some (s,r)from Qbn.2 ⟨h,by simp[Bc,Ed,Jg]⟩]
  |@f _ _ b hs hb=>
   rw[hs];simp only;rw[if_neg bL,if_neg bL,if_pos hb];rw[show Rw (Bc (.mk 102 (if b then Fa else Nq) 0 [])++r)=some (b,r)from Qae.2 (by cases b<;>simp[Bc,Ed,Jg])]
  |@lst _ _ t ks hs hl h=>
   rw[hs];simp only;rw[if_pos Ac];unfold Yl;rw[Jt,av,Bw];simp only;cases ks with
   |nil=>rfl
   |cons x ks=>
    obtain⟨c,q,e1,e2,_⟩:=Qek (h x aK);have e3:Au 93 (Aw 44 ((x::ks).map Bc)++[93]++r)=none:=by
     cases ks with
     |nil=>simp only[ay,List.map_nil,Aw,e1,av,Ds e2]
     |cons y ks=>rw[ay,De 44 _ aK,e1];simp only[av,Ds e2]
    rw[e3];simp only;rw[List.append_assoc,List.singleton_append,Xv m (x::ks) r (fun y hy r hr=>ih _ _ _ (h y hy) hr) aK aH];simp only;rw[if_pos hl]
  |@non _ _ t hs=>rw[hs];rfl
  |@som _ _ t x hs h=>
   rw[hs];simp only;rw[if_neg aJ];have e:Bc (.mk 63 [] 0 [x])=43::Bc x:=by simp[Bc,Ed,Jg,Aw]
   unfold Qeh;rw[e,av,Ds aJ,Bw];simp only;rw[ih _ _ _ h hr]
  |@enm _ _ t f hs hb ht h9 hf=>
   rw[hs];simp only;rw[if_neg bL,if_neg bL,if_neg bL,ht];simp only;unfold Mg;have h200:f.tag<=200:=((hS t (Cp ht).1).2.2.1.1 f (Ax hf).2).2.1;have e:Bc (.mk 69 [] f.tag [])=35::Bb f.tag:=by simp[Bc,Ed,Jg]
   rw[if_pos h9,e,av,Bw];simp only;rw[Qev h200 hf hr]
  |@uni _ _ t f x hs hb ht h5 hf h=>
   rw[hs];simp only;rw[if_neg bL,if_neg bL,if_neg bL,ht];simp only;unfold Mg;have h9:t.sort≠69:=dS;rw[if_neg h9,if_pos h5,Ts,av,Bw];simp only;rw[List.append_assoc,List.singleton_append,Te (p:=(f,x)) (Nl hS ht h9 (Ax hf).2).2 hf (ih _ _ (62::r) h (Kq (c:=62) _ aJ))];simp only[Bw]
  |@rcd _ _ t fs hs hb ht h2 hf h hn hp=>
   rw[hs];simp only;rw[if_neg bL,if_neg bL,if_neg bL,ht];simp only;unfold Mg;have h9:t.sort≠69:=da;rw[if_neg h9,if_neg da,Mu,av,Bw];simp only;cases fs with
   |nil=>rfl
   |cons p fs=>
    have e3:Au 125 (Aw 44 ((p::fs).map fun p=>Bc (Dr p))++[125]++r)=none:=by
     have e1:Bc (Dr p)=Bb p.1.tag++61::Bc p.2:=by simp[Dr,Bc,Ed,Jg,Aw]
     cases hd:Bb p.1.tag with
     |nil=>exact absurd hd (Vi _)
     |cons c q=>
      have hc:=Pq p.1.tag;rw[hd,List.all_cons,aw,D3]at hc;have e2:c≠125:=by rintro rfl;revert hc;simp
      rw[hd]at e1;cases fs with
      |nil=>simp only[ay,List.map_nil,Aw,e1,av,Ds e2]
      |cons y fs=>rw[ay,De 44 _ aK,e1];simp only[av,Ds e2]
    rw[e3];simp only
    rw[List.append_assoc,List.singleton_append,Qau 201 0 (p::fs) r (fun q hq r hr=>ih _ _ _ (h q hq) hr) aK
     (fun q hq=>?_) hp aH]
    have hm:=(Ax (hf q hq)).2;have h1:=((hS t (Cp ht).1).2.2.1.1 q.1 hm).1;exact⟨h1,(Nl hS ht h9 hm).2,hf q hq,hn q hq⟩
theorem Qc4{S:List Ty}(hS:∀t∈S,Ft t){d:Nat}{k:Kd}{v u:Vl}(hv:Jf S d k v)(hu:Jf S d k u)(h:Bc v=Bc u):v=u:=by
 have h1:=Ng hS (An 20) d k v [] hv Pp;have h2:=Ng hS (An 20) d k u [] hu Pp;rw[h,h2]at h1;injection h1 with h1;injection h1 with h1;exact h1.symm
def Gd(S:List Ty)(k:Kd)(s:List UInt8):Option Vl:=
 if 400<s.length then none else match Ar S 20 12 k s with
  |some (v,[])=>some v
  |_=>none
theorem Eb{S:List Ty}(hS:∀t∈S,Ft t){k:Kd}(hk:Cq k){s:List UInt8}{v:Vl}:Gd S k s=some v↔Jf S 12 k v/\Bc v=s/\s.length<=400:=by
 unfold Gd;constructor
 ·intro h;split at h
  ·cases h
  rename_i hl;cases hr:Ar S 20 12 k s with
  |none=>rw[hr]at h;cases h
  |some q=>
   obtain⟨x,r⟩:=q;rw[hr]at h;cases r with
   |cons c t=>cases h
   |nil=>
    simp only[aj]at h;subst h;obtain⟨h1,h2⟩:=G9 hS 20 12 k s x [] hk hr;exact⟨h1,by rw[h2,List.append_nil],by omega⟩
 rintro⟨h1,rfl,hl⟩;rw[if_neg aH];have:=Ng hS (An 20) 12 k v [] h1 Pp;rw[List.append_nil]at this;rw[this]
theorem Qi3{S:List Ty}(hS:∀t∈S,Ft t){k:Kd}(hk:Cq k){s:List UInt8}(hl:s.length<=400)(m n:Nat)(hm:20<=m)(hn:12<=n):
  Gd S k s=match Ar S m n k s with|some (v,[])=>if Nt v<=12 then some v else none|_=>none:=by
 cases hr:Ar S m n k s with
 |none=>
  cases hv:Gd S k s with
  |none=>rfl
  |some v=>
   obtain⟨h1,h2,_⟩:=(Eb hS hk).1 hv;have h3:Jf S n k v:=(G8 S _ _ _ h1 n).2 (ad ((G8 S _ _ _ h1 12).1 h1) hn);have:=Ng hS hm n k v [] h3 Pp;rw[List.append_nil,h2,hr]at this;cases this
 |some q=>
  obtain⟨x,r⟩:=q;obtain⟨h1,h2⟩:=G9 hS m n k s x r hk hr;cases r with
  |nil=>
   simp only;rw[List.append_nil]at h2;by_cases hd:Nt x<=12
   ·rw[if_pos hd,Eb hS hk];exact⟨(G8 S _ _ _ h1 12).2 hd,h2.symm,hl⟩
   rw[if_neg hd];cases hv:Gd S k s with
   |none=>rfl
   |some v=>
    obtain⟨i1,i2,_⟩:=(Eb hS hk).1 hv;have h3:Jf S n k v:=(G8 S _ _ _ i1 n).2 (ad ((G8 S _ _ _ i1 12).1 i1) hn);have e:=Qc4 hS h3 h1 (by rw[i2,h2]);subst e;exact absurd ((G8 S _ _ _ i1 12).1 i1) hd
  |cons c t=>
   simp only;cases hv:Gd S k s with
   |none=>rfl
   |some v=>
    obtain⟨i1,i2,_⟩:=(Eb hS hk).1 hv;have h3:Jf S n k v:=(G8 S _ _ _ i1 n).2 (ad ((G8 S _ _ _ i1 12).1 i1) hn);have:=Ng hS hm n k v [] h3 Pp;rw[List.append_nil,i2,hr]at this;injection this with this;injection this with _ this;cases this
end
section
attribute [local go_sem] Qok Qoa Ql9
theorem Ym(s p:List UInt8):(s.take p.length == p)=p.isPrefixOf s:=by
 rw[Bool.eq_iff_iff,beq_iff_eq,List.isPrefixOf_iff_prefix,List.prefix_iff_eq_take];exact eq_comm
theorem Yj(s p:List UInt8)(h:¬p.length<=s.length):p.isPrefixOf s=false:=by
 rw[Bool.eq_false_iff,Ne,List.isPrefixOf_iff_prefix];intro hp;exact h hp.length_le
theorem Qaq(s p:List UInt8)(w:World):
  Calls prog 123 #[s,p] w fun e w'=>e=.returned (.bool (p.isPrefixOf s))/\w=w':=by
 by_cases h:p.length<=s.length
 ·have HS:=Aa (Ym s p);go_enter func123,ntmps123;go_wp2
  go_ret;exact⟨by rw[<-HS.o];rfl,rfl⟩
 have HS:=Aa (Yj s p h);go_enter func123,ntmps123;go_wp2
 go_ret;exact⟨by rw[HS.o];rfl,rfl⟩
end
theorem Pu{α:Type}{p q:α->Bool}:∀(l:List α) (_:∀x,q x=true->p x=true) {a:α} (_:a∈l) (_:p a=true) (_:q a=false),(l.filter q).length<(l.filter p).length
 |[],_,_,ha,_,_=>by cases ha
 |x::l,h,a,ha,hp,hq=>by
  have hle:∀l:List α,(l.filter q).length<=(l.filter p).length:=by
   intro l;induction l with
   |nil=>exact An _
   |cons y l ih=>
    simp only[List.filter_cons];by_cases h1:q y=true
    ·rw[if_pos h1,if_pos (h y h1)];simpa using ih
    rw[if_neg h1];split
    ·simp;omega
    exact ih
  rcases aA.1 ha with rfl|ha
  ·have:=hle l;simp only[List.filter_cons,hp,hq];simp;omega
  have ih:=Pu l h ha hp hq;simp only[List.filter_cons];by_cases h1:q x=true
  ·rw[if_pos h1,if_pos (h x h1)];simpa using ih
  rw[if_neg h1];split
  ·simp;omega
  exact ih
section
variable {P:Program} {ops:Array Oper} {Q:Exit->Act->World->Prop} {md:Region.Mode}
def Ve(ops:Array Oper)(listed:Array Bool):Nat:=((List.range ops.size).filter fun i=>!listed.getD i false).length
theorem Qb9(hac:∀(i:Nat) (o:Oper),ops[i]?=some o->∀e∈o.after,Region.binds md e=true->e.on<i)(I:(Nat->Bool)->Act->World->Prop)
  (hstep:∀(l:Nat->Bool) a w i o,ops[i]?=some o->l i=false->(∀e∈o.after,Region.binds md e=true->l e.on=true)->I l a w->wpOp P ops Q i (I fun j=>if j=i then true else l j) a w)
  (hdone:∀l a w,(∀i,i<ops.size->l i=true)->I l a w->Q .normal a w):
  ∀(fuel:Nat) (listed:Array Bool) a w,listed.size=ops.size->Ve ops listed<=fuel->I (fun j=>listed.getD j false) a w->wpAny P md ops Q fuel listed a w:=by
 have hall:∀listed:Array Bool,listed.size=ops.size->Region.ready md ops listed=[]->∀i,i<ops.size->listed.getD i false=true:=by
  intro listed hsz hr i;induction i using Nat.strongRecOn with
  |ind i ih=>
   intro hi;cases hb:listed.getD i false with
   |true=>rfl
   |false=>
    have:i∈Region.ready md ops listed:=by
     rw[mem_ready]
     refine ⟨by have h2:i<listed.size:=by omega
                simpa [Array.getD,h2]using hb,ops[i],by simp[hi],fun e he hbd=>?_⟩
     have h1:=hac i ops[i] (by simp[hi]) e he hbd;exact ih e.on h1 aH
    rw[hr]at this;cases this
 intro fuel;induction fuel with
 |zero=>
  intro listed a w hsz hst hI;have hall':∀i,i<ops.size->listed.getD i false=true:=by
   intro i hi;have h0:((List.range ops.size).filter fun i=>!listed.getD i false)=[]:=List.eq_nil_of_length_eq_zero (by unfold Ve at hst;omega);have:=List.filter_eq_nil_iff.1 h0 i (List.mem_range.2 hi);simpa using this
  refine⟨?_,hdone _ a w hall' hI⟩;cases hr:Region.ready md ops listed with
  |nil=>rfl
  |cons j js=>
   have hj:j∈Region.ready md ops listed:=by rw[hr];simp
   obtain⟨h1,o,h2,_⟩:=mem_ready.1 hj;have h3:j<ops.size:=(Array.getElem?_eq_some_iff.1 h2).1;have h4:=hall' j h3;have h5:j<listed.size:=aH;simp[Array.getD,h5]at h1 h4;rw[h1]at h4;cases h4
 |succ fuel ih=>
  intro listed a w hsz hst hI;refine⟨fun hr=>hdone _ a w (hall listed hsz hr) hI,fun i hi=>?_⟩;obtain⟨h1,o,h2,h3⟩:=mem_ready.1 hi;have hlt:i<ops.size:=(Array.getElem?_eq_some_iff.1 h2).1;have hlt2:i<listed.size:=aH;have h1':listed.getD i false=false:=by simpa [Array.getD,hlt2]using h1
  have hset:∀j,(listed.setIfInBounds i true).getD j false=if j=i then true else listed.getD j false:=by
   intro j;by_cases hj:j=i
   ·subst hj;simp[Array.getD,hlt2]
   rw[if_neg hj,getD_set_ne _ (Ne.symm hj)]
  refine wpOp_mono (fun a' w' h=>ih (listed.setIfInBounds i true) a' w' (by simpa using hsz) ?_ ?_) (hstep _ a w i o h2 h1' h3 hI)
  ·have:=Pu (p:=fun i=>!listed.getD i false) (q:=fun j=>!(listed.setIfInBounds i true).getD j false) (List.range ops.size) (fun x hx=>by
    simp only[Bool.not_eq_true']at hx ⊢;rw[hset]at hx;by_cases hxi:x=i
    ·rw[if_pos hxi]at hx;cases hx
    rwa [if_neg hxi]at hx) (List.mem_range.2 hlt) (by simp only[h1',Bool.not_false]) (by simp only[hset,if_true,Bool.not_true])
   unfold Ve at hst ⊢;omega
  have e:(fun j=>(listed.setIfInBounds i true).getD j false)=fun j=>if j=i then true else listed.getD j false:=funext hset
  rw[e];exact h
def Ak(p:Nat->Oper->Prop)(k:Nat)(os:List Oper):Prop:=∀i o,os[i]?=some o->p (k+i) o
theorem Ak.nil{p:Nat->Oper->Prop}{k:Nat}:Ak p k []:=fun i o h=>by simp at h
theorem Ak.cons{p:Nat->Oper->Prop}{k:Nat}{o:Oper}{os:List Oper}(h:p k o)(hs:Ak p (k+1) os):Ak p k (o::os):=fun i o' ho=>by
 cases i with
 |zero=>simp at ho;subst ho;exact h
 |succ i=>simp at ho;have:=hs i o' ho;rwa [Nat.add_assoc,Nat.add_comm 1 i]at this
theorem Qa3{id:Nat}(hm:P.follows .mixedOrders=true)(hac:(List.range ops.size).all (fun i=>((ops[i]?).map fun o=>o.after.all fun e=>!Region.binds .any e || decide (e.on<i)).getD true)=true)
  (mk:(Nat->Value)->Act) (u0:Nat->Value) {a:Act} (ha:a=mk u0) {w:World}
  (φ:Nat->Value->World->Prop) (R:(Nat->Bool)->World->Prop) (Rel:World->World->Prop)
  (hput:Ak (fun i o=>∀u v,(mk u).put o.dst v=mk (fun j=>if j=i then v else u j)) 0 ops.toList)
  (hst:∀w w',Rel w w'->∀i v,φ i v w->φ i v w')
  (h0:R (fun _=>false) w.drew)
  (hstep:Ak (fun i o=>∀(l:Nat->Bool) u w,l i=false->(∀e∈o.after,Region.binds .any e=true->l e.on=true/\φ e.on (u e.on) w)->R l w ->
   ∀K:Act->World->Prop,(∀v w' a',φ i v w'->Rel w w'->R (fun j=>if j=i then true else l j) w'->a'=(mk u).put o.dst v->K a' w') ->
    if Region.wanted o (yielded ops (mk u).tmps)=true then Oper.wp P o (mk u) w K Q else K ((mk u).put o.dst undef) w) 0 ops.toList)
  (hdone:∀(l:Nat->Bool) u w,(∀i,i<ops.size->l i=true)->(∀i,i<ops.size->φ i (u i) w)->R l w->Q .normal (mk u) w):(Code.region id ops true).wp P Q a w:=by
 subst ha;have hst':=fun i v w w' h=>hst w w' h i v;have hac':∀(i:Nat) (o:Oper),ops[i]?=some o->∀e∈o.after,Region.binds .any e=true->e.on<i:=by
  intro i o ho e he hbd;have hlt:i<ops.size:=(Array.getElem?_eq_some_iff.1 ho).1;have h:=List.all_eq_true.1 hac i (List.mem_range.2 hlt);rw[ho]at h;have:=Array.all_eq_true_iff_forall_mem.1 h e he;simpa [hbd]using this
 refine wp_region_any hm ?_
 refine Qb9 hac' (fun l a w=>∃u,a=mk u/\(∀i,l i=true->i<ops.size->φ i (u i) w)/\R l w) ?_ ?_ ops.size _ (mk u0) _ aK (by
  unfold Ve;exact ad (List.length_filter_le _ _) aK) ⟨u0,rfl,?_,?_⟩
 ·rintro l a w i o ho hl hpre ⟨u,rfl,hφ,hR⟩;have ho':ops.toList[i]?=some o:=by simpa using ho
  have hp:=hput i o ho';have hs:=hstep i o ho';rw[am]at hp hs;refine wpOp_step ho fun K' hK'=>?_;refine hs l u w hl (fun e he hb=>⟨hpre e he hb,hφ e.on (hpre e he hb) ?_⟩) hR K' (fun v w' a' hv hrel hR' ha'=>hK' _ _ ⟨_,ha'.trans (hp u v),fun j hj hjs=>?_,hR'⟩)
  ·exact jM
  by_cases hji:j=i
  ·subst hji;simpa using hv
  have hj':l j=true:=gC;simpa [hji]using hst' j _ w w' hrel (hφ j hj' hjs)
 ·rintro l a w hl ⟨u,rfl,hφ,hR⟩;exact kz
 ·intro i hi;simp[Array.getD]at hi
 have e:(fun j=>(Array.replicate ops.size false).getD j false)=fun _=>false:=by
  funext j
  simp[Array.getD]
 rw[e];exact h0
def Bs:List Nat->Nat->(Nat->Value)->List Value->List Value
 |[],_,_,t=>t
 |s::S,i,u,t=>Bs S (i+1) u (t.set s (u i))
def Bv(a:Act)(S:List Nat)(u:Nat->Value):Act:={tmps:=(Bs S 0 u a.tmps.toList).toArray,defers:=a.defers}
theorem P7:∀(S:List Nat) (i:Nat) (u:Nat->Value) (t:List Value),(∀k s,S[k]?=some s->u (i+k)=t.getD s undef)->Bs S i u t=t
 |[],_,_,_,_=>rfl
 |s::S,i,u,t,h=>by
  have h0:u i=t.getD s undef:=by simpa using h 0 s rfl
  have e:t.set s (u i)=t:=by
   rw[h0];apply List.ext_getElem?;intro j;by_cases hj:s=j
   ·subst hj;by_cases hl:s<t.length
    ·simp[List.getD,hl]
    simp[hl]
   simp[hj]
  rw[Bs,e];exact P7 S (i+1) u t fun k s' hk=>by
   have:=h (k+1) s' (by simpa using hk);rwa [show i+1+k=i+(k+1)by omega]
theorem Pb:∀(S:List Nat) (i:Nat) (u v:Nat->Value) (t:List Value),(∀j,i<=j->u j=v j)->Bs S i u t=Bs S i v t
 |[],_,_,_,_,_=>rfl
 |s::S,i,u,v,t,h=>by
  rw[Bs,Bs,h i (An _)];exact Pb S (i+1) u v _ fun j hj=>h j aH
theorem Va:∀(S:List Nat) (i:Nat) (u:Nat->Value) (t:List Value) (s:Nat) (v:Value),s∉S->(Bs S i u t).set s v=Bs S i u (t.set s v)
 |[],_,_,_,_,_,_=>rfl
 |s'::S,i,u,t,s,v,h=>by
  have h1:s≠s':=fun e=>h (by simp[e]);rw[Bs,Bs,Va S (i+1) u _ s v (fun hm=>h (by simp[hm]))];congr 1
  exact(List.set_comm _ _ h1).symm
theorem Qr:∀(S:List Nat) (i:Nat) (u:Nat->Value) (t:List Value) (k s:Nat) (v:Value),S.Nodup->S[k]?=some s->(Bs S i u t).set s v=Bs S i (fun j=>if j=i+k then v else u j) t
 |[],_,_,_,k,s,v,_,h=>by simp at h
 |s'::S,i,u,t,0,s,v,hn,h=>by
  simp at h;subst h;rw[Bs,Bs,Va S (i+1) u _ s' v (List.nodup_cons.1 hn).1];rw[if_pos aH,List.set_set];exact Pb S (i+1) u _ _ fun j hj=>by rw[if_neg aH]
 |s'::S,i,u,t,k+1,s,v,hn,h=>by
  simp at h;rw[Bs,Bs,Qr S (i+1) u _ k s v (List.nodup_cons.1 hn).2 h,if_neg aH];rw[show i+1+k=i+(k+1)by omega]
theorem Rh:∀(S:List Nat) (i:Nat) (u:Nat->Value) (t:List Value) (k s:Nat) (v:Value),S[k]?=some s->t.length<=s->Bs S i u t=Bs S i (fun j=>if j=i+k then v else u j) t
 |[],_,_,_,k,s,v,h,_=>by simp at h
 |s'::S,i,u,t,0,s,v,h,hl=>by
  simp at h;subst h;rw[Bs,Bs,List.set_eq_of_length_le hl,List.set_eq_of_length_le hl];exact Pb S (i+1) u _ _ fun j hj=>by rw[if_neg aH]
 |s'::S,i,u,t,k+1,s,v,h,hl=>by
  simp at h;rw[Bs,Bs,Rh S (i+1) u _ k s v h fZ,if_neg aH];rw[show i+1+k=i+(k+1)by omega]
def Ge(n:Nat):List Oper->List Nat->Bool
 |[],[]=>true
 |o::os,s::S=>(match o.dst with|some d=>d == s|none=>decide (n<=s)) && !S.contains s && Ge n os S
 |_,_=>false
theorem P5{n:Nat}:∀{os:List Oper} {S:List Nat},Ge n os S=true->S.Nodup/\∀(i:Nat) (o:Oper),os[i]?=some o->∃s,S[i]?=some s/\(o.dst=some s\/(o.dst=none/\n<=s))
 |[],[],_=>⟨List.nodup_nil,fun i o h=>by simp at h⟩
 |[],_::_,h=>by simp[Ge]at h
 |_::_,[],h=>by simp[Ge]at h
 |o::os,s::S,h=>by
  simp only[Ge,aw]at h;obtain⟨⟨h1,h2⟩,h3⟩:=h;obtain⟨hn,hs⟩:=P5 h3;refine⟨List.nodup_cons.2 ⟨by simpa using h2,hn⟩,fun i o' ho=>?_⟩;cases i with
  |zero=>
   simp at ho;subst ho;refine⟨s,rfl,?_⟩;cases hd:o.dst with
   |some d=>rw[hd]at h1;simp at h1;exact .inl (by rw[h1])
   |none=>rw[hd]at h1;simp at h1;exact .inr ⟨rfl,h1⟩
  |succ i=>simpa using hs i o' (by simpa using ho)
theorem Js{id:Nat}{a:Act}{w:World}(S:List Nat)(hm:P.follows .mixedOrders=true)(hac:(List.range ops.size).all (fun i=>((ops[i]?).map fun o=>o.after.all fun e=>!Region.binds .any e || decide (e.on<i)).getD true)=true)
  (hS:Ge a.tmps.size ops.toList S=true) {mk:(Nat->Value)->Act} (hmk:∀u,Bv a S u=mk u)
  (φ:Nat->Value->World->Prop) (R:(Nat->Bool)->World->Prop) (Rel:World->World->Prop)
  (hst:∀w w',Rel w w'->∀i v,φ i v w->φ i v w')
  (h0:R (fun _=>false) w.drew)
  (hstep:Ak (fun i o=>∀(l:Nat->Bool) u w,l i=false->(∀e∈o.after,Region.binds .any e=true->l e.on=true/\φ e.on (u e.on) w)->R l w ->
   ∀K:Act->World->Prop,(∀v w' a',φ i v w'->Rel w w'->R (fun j=>if j=i then true else l j) w'->a'=(mk u).put o.dst v->K a' w') ->
    if Region.wanted o (yielded ops (mk u).tmps)=true then Oper.wp P o (mk u) w K Q else K ((mk u).put o.dst undef) w) 0 ops.toList)
  (hdone:∀(l:Nat->Bool) u w,(∀i,i<ops.size->l i=true)->(∀i,i<ops.size->φ i (u i) w)->R l w->Q .normal (mk u) w):(Code.region id ops true).wp P Q a w:=by
 obtain rfl:Bv a S=mk:=funext hmk;obtain⟨hn,hs⟩:=P5 hS;refine Qa3 hm hac (Bv a S) (fun i=>a.tmps.toList.getD (S.getD i 0) undef) ?_ φ R Rel ?_ hst h0 hstep hdone
 ·exact jW
 intro i o ho u v;rw[am];obtain⟨s,hsi,hd|⟨hd,hb⟩⟩:=hs i o ho
 ·exact jy
 have e:=Rh S 0 u a.tmps.toList i s v hsi (by simpa using hb);rw[am]at e;unfold Bv Act.put;rw[hd];simp only[<-e]
end
section
variable {P:Program} {ops:Array Oper} {Q:Exit->Act->World->Prop}
theorem Bq{id:Nat}{a:Act}{w:World}(S:List Nat)(hm:P.follows .mixedOrders=true)(hac:(List.range ops.size).all (fun i=>((ops[i]?).map fun o=>o.after.all fun e=>!Region.binds .any e || decide (e.on<i)).getD true)=true)
  (hS:Ge a.tmps.size ops.toList S=true) {mk:(Nat->Value)->Act} (hmk:∀u,Bv a S u=mk u)
  (φ:Nat->Value->World->Prop) (R:(Nat->Bool)->(Nat->Value)->World->Prop) (Rel:World->World->Prop)
  (hst:∀w w',Rel w w'->∀i v,φ i v w->φ i v w')
  (h0:R (fun _=>false) (fun i=>a.tmps.toList.getD (S.getD i 0) undef) w.drew)
  (hstep:Ak (fun i o=>∀(l:Nat->Bool) u w,l i=false->(∀e∈o.after,Region.binds .any e=true->l e.on=true/\φ e.on (u e.on) w)->R l u w ->
   (∀j,l j=false->u j=a.tmps.toList.getD (S.getD j 0) undef)->(∀(j:Nat) (o:Oper),ops[j]?=some o->∀e∈o.after,Region.binds .any e=true->l e.on=false->l j=false) ->
   ∀K:Act->World->Prop,(∀v w' a',φ i v w'->Rel w w'->R (fun j=>if j=i then true else l j) (fun j=>if j=i then v else u j) w'->a'=(mk u).put o.dst v->K a' w') ->
    if Region.wanted o (yielded ops (mk u).tmps)=true then Oper.wp P o (mk u) w K Q else K ((mk u).put o.dst undef) w) 0 ops.toList)
  (hdone:∀(l:Nat->Bool) u w,(∀i,i<ops.size->l i=true)->(∀i,i<ops.size->φ i (u i) w)->R l u w->Q .normal (mk u) w):(Code.region id ops true).wp P Q a w:=by
 obtain rfl:Bv a S=mk:=funext hmk;obtain⟨hn,hs⟩:=P5 hS;have hput:∀(i:Nat) (o:Oper),ops.toList[i]?=some o->∀u v,(Bv a S u).put o.dst v=Bv a S (fun j=>if j=i then v else u j):=by
  intro i o ho u v;obtain⟨s,hsi,hd|⟨hd,hb⟩⟩:=hs i o ho
  ·exact jy
  have e:=Rh S 0 u a.tmps.toList i s v hsi (by simpa using hb);rw[am]at e;unfold Bv Act.put;rw[hd];simp only[<-e]
 have hac':∀(i:Nat) (o:Oper),ops[i]?=some o->∀e∈o.after,Region.binds .any e=true->e.on<i:=by
  intro i o ho e he hbd;have hlt:i<ops.size:=(Array.getElem?_eq_some_iff.1 ho).1;have h:=List.all_eq_true.1 hac i (List.mem_range.2 hlt);rw[ho]at h;have:=Array.all_eq_true_iff_forall_mem.1 h e he;simpa [hbd]using this
 refine wp_region_any hm ?_
 refine Qb9 hac' (fun l b w=>∃u,b=Bv a S u/\(∀i,l i=true->i<ops.size->φ i (u i) w)/\R l u w/\(∀j,l j=false->u j=a.tmps.toList.getD (S.getD j 0) undef) /\
   (∀(j:Nat) (o:Oper),ops[j]?=some o->∀e∈o.after,Region.binds .any e=true->l e.on=false->l j=false)) ?_ ?_ ops.size _ a _ aK (by
  unfold Ve;exact ad (List.length_filter_le _ _) aK) ⟨fun i=>a.tmps.toList.getD (S.getD i 0) undef,?_,?_,?_,fun _ _=>rfl,?_⟩
 ·rintro l b w i o ho hl hpre ⟨u,rfl,hφ,hR,hi,hdn⟩;have ho':ops.toList[i]?=some o:=by simpa using ho
  have hp:=hput i o ho';have hs':=hstep i o ho';rw[am]at hs';refine wpOp_step ho fun K' hK'=>?_;refine hs' l u w hl (fun e he hb=>⟨hpre e he hb,hφ e.on (hpre e he hb) ?_⟩) hR hi hdn K' (fun v w' a' hv hrel hR' ha'=>hK' _ _ ⟨_,ha'.trans (hp u v),fun j hj hjs=>?_,hR',fun j hj=>?_,fun j o' hj e he hb hle=>?_⟩)
  ·exact jM
  ·by_cases hji:j=i
   ·subst hji;simpa using hv
   have hj':l j=true:=gC;simpa [hji]using hst w w' hrel j _ (hφ j hj' hjs)
  ·by_cases hji:j=i
   ·subst hji;simp at hj
   have hj':l j=false:=gC;simpa [hji]using hi j hj'
  have hne:e.on≠i:=by rintro rfl;simp at hle
  have hle':l e.on=false:=by simpa [hne]using hle
  have hlj:=hdn j o' hj e he hb hle';have hji:j≠i:=by
   rintro rfl;rw[ho]at hj;injection hj with hj;subst hj;rw[hpre e he hb]at hle';cases hle'
  simpa [hji]using hlj
 ·rintro l b w hl ⟨u,rfl,hφ,hR,_,_⟩;exact kz
 ·exact jW
 ·intro i hi;simp[Array.getD]at hi
 ·have e:(fun j=>(Array.replicate ops.size false).getD j false)=fun _=>false:=by
   funext j
   simp[Array.getD]
  rw[e];exact h0
 intro j o hj e he hb _;simp[Array.getD]
end
theorem Az{ops:Array Oper}{l:Nat->Bool}(h:∀(j:Nat) (o:Oper),ops[j]?=some o->∀e∈o.after,Region.binds .any e=true->l e.on=false->l j=false)(j i:Nat)(hc:((ops[j]?).map fun o=>o.after.toList.any fun e=>decide (e.on=i) && Region.binds .any e)=some true)(hi:l i=false):l j=false:=by
 cases ho:ops[j]? with
 |none=>rw[ho]at hc;cases hc
 |some o=>
  rw[ho]at hc;have hc:(o.after.toList.any fun e=>decide (e.on=i) && Region.binds .any e)=true:=by injection hc
  obtain⟨e,he,h2⟩:=List.any_eq_true.1 hc;rw[aw,decide_eq_true_iff]at h2;obtain⟨rfl,h3⟩:=h2;exact h j o ho e dm h3 hi
theorem rgE{P:Program}{ops:Array Oper}{Q:Exit->Act->World->Prop}{id:Nat}{a:Act}{w:World}(S:List Nat){mk:(Nat->Value)->Act}
  (φ:Nat->Value->World->Prop) (R:(Nat->Bool)->(Nat->Value)->World->Prop)
  (h0:R (fun _=>false) (fun i=>a.tmps.toList.getD (S.getD i 0) undef) w.drew)
  (hstep:Ak (fun i o=>∀(l:Nat->Bool) u w,l i=false->(∀e∈o.after,Region.binds .any e=true->l e.on=true/\φ e.on (u e.on) w)->R l u w ->
   (∀j,l j=false->u j=a.tmps.toList.getD (S.getD j 0) undef)->(∀(j:Nat) (o:Oper),ops[j]?=some o->∀e∈o.after,Region.binds .any e=true->l e.on=false->l j=false) ->
   ∀K:Act->World->Prop,(∀v w' a',φ i v w'->True->R (fun j=>if j=i then true else l j) (fun j=>if j=i then v else u j) w'->a'=(mk u).put o.dst v->K a' w') ->
    if Region.wanted o (yielded ops (mk u).tmps)=true then Oper.wp P o (mk u) w K Q else K ((mk u).put o.dst undef) w) 0 ops.toList)
  (hdone:∀(l:Nat->Bool) u w,(∀i,i<ops.size->l i=true)->(∀i,i<ops.size->φ i (u i) w)->R l u w->Q .normal (mk u) w)
  (hc:(P.follows .mixedOrders && (List.range ops.size).all (fun i=>((ops[i]?).map fun o=>o.after.all fun e=>!Region.binds .any e || decide (e.on<i)).getD true) && Ge a.tmps.size ops.toList S)=true:=by kernel_rfl) (hst:∀w w':World,True->∀i v,φ i v w->φ i v w':=by exact fun _ _ _ _ _ h=>h) (hmk:∀u,Bv a S u=mk u:=by intro u;dsimp only[Bv,Bs,List.set,am,Nat.reduceAdd]):(Code.region id ops true).wp P Q a w:=
 have h1:=Bool.and_eq_true_iff.1 hc;have h2:=Bool.and_eq_true_iff.1 h1.1;Bq S h2.1 h2.2 h1.2 hmk φ R (fun _ _=>True) hst h0 hstep hdone
theorem Jo{P:Program}{ops:Array Oper}{Q:Exit->Act->World->Prop}{id:Nat}{a:Act}{w:World}(S:List Nat){mk:(Nat->Value)->Act}
  (φ:Nat->Value->World->Prop) (R:(Nat->Bool)->(Nat->Value)->World->Prop)
  (h0:R (fun _=>false) (fun i=>a.tmps.toList.getD (S.getD i 0) undef) w.drew)
  (hstep:Ak (fun i o=>∀(l:Nat->Bool) u w,l i=false->(∀e∈o.after,Region.binds .any e=true->l e.on=true/\φ e.on (u e.on) w)->Hid (R l u w)->Hid (∀(j:Nat) (o:Oper),ops[j]?=some o->∀e∈o.after,Region.binds .any e=true->l e.on=false->l j=false) ->
   ∀K:Act->World->Prop,(∀v w' a',φ i v w'->True->R (fun j=>if j=i then true else l j) (fun j=>if j=i then v else u j) w'->a'=(mk u).put o.dst v->K a' w') ->
    if Region.wanted o (yielded ops (mk u).tmps)=true then Oper.wp P o (mk u) w K Q else K ((mk u).put o.dst undef) w) 0 ops.toList)
  (hdone:∀(l:Nat->Bool) u w,(∀i,i<ops.size->l i=true)->(∀i,i<ops.size->φ i (u i) w)->R l u w->Q .normal (mk u) w)
  (hc:(P.follows .mixedOrders && (List.range ops.size).all (fun i=>((ops[i]?).map fun o=>o.after.all fun e=>!Region.binds .any e || decide (e.on<i)).getD true) && Ge a.tmps.size ops.toList S)=true:=by kernel_rfl) (hst:∀w w':World,True->∀i v,φ i v w->φ i v w':=by exact fun _ _ _ _ _ h=>h) (hmk:∀u,Bv a S u=mk u:=by intro u;dsimp only[Bv,Bs,List.set,am,Nat.reduceAdd]):(Code.region id ops true).wp P Q a w:=
 have h1:=Bool.and_eq_true_iff.1 hc;have h2:=Bool.and_eq_true_iff.1 h1.1;Bq S h2.1 h2.2 h1.2 hmk φ R (fun _ _=>True) hst h0 (fun i o ho l u w h1 h2 hR _ hd=>hstep i o ho l u w h1 h2 hR hd) hdone
theorem Pc{a b:Bool}(h:a=false->b=false)(l:b=true):a=true:=by
 cases a with
 |true=>rfl
 |false=>rw[h rfl]at l;cases l
theorem Tryz.sizeBuilder:(prog.info? 128).map (·.size)=some 2:=aL
theorem Tryz.liesBuilder:liesAt prog prog.depth 128 (2 / prog.cellsOf 128) 0 128 1=true:=aL
theorem Tryz.cellsByte:prog.cellsOf 5=1:=aL
abbrev Df:=Cw × Cw
def Xm(S T:List Ty)(K:Kd->Kd->List Df->Bool × List Df)(t:Ty)(st:UInt8):List Fd->List Df->Bool × List Df
 |[],m=>(true,m)
 |g::gs,m=>match Av t.fields g.tag with
  |none=>if st=82 then Xm S T K t st gs m else(false,m)
  |some f=>if st=69 then Xm S T K t st gs m else
    if (K f.kind g.kind m).1=false then(false,(K f.kind g.kind m).2)
    else if st=82/\J4 S f≠J4 T g then(false,(K f.kind g.kind m).2)
    else Xm S T K t st gs (K f.kind g.kind m).2
def evT(S T:List Ty)(K:Kd->Kd->List Df->Bool × List Df)(t u:Ty)(m:List Df):Bool × List Df:=
 if t.sort≠u.sort then(false,m)else Xm S T K t u.sort u.fields m
def Kg(S T:List Ty):Nat->Kd->Kd->List Df->Bool × List Df
 |0,_,_,m=>(true,m)
 |n+1,a,b,m=>
  if a.signs≠b.signs\/a.base≠b.base then(false,m)
  else if a.base≠[64]then(true,m)
  else match Bt S a.name,Bt T b.name with
   |some t,some u=>if (a.name,b.name)∈m then(true,m)else evT S T (Kg S T n) t u (m++[(a.name,b.name)])
   |_,_=>(false,m)
def Mk(S T:List Ty)(m:List Df):Prop:=m.Nodup/\∀p∈m,p.1∈Gf S/\p.2∈Gf T
theorem Mk.nil(S T:List Ty):Mk S T []:=⟨List.nodup_nil,by simp⟩
theorem Mk.snoc{S T:List Ty}{m:List Df}{a b:Cw}(h:Mk S T m)(ha:a∈Gf S)(hb:b∈Gf T)(hn:(a,b)∉m):Mk S T (m++[(a,b)]):=by
 refine⟨?_,?_⟩
 ·rw[List.nodup_append];refine⟨h.1,by simp,?_⟩;intro x hx y hy;simp only[aq]at hy;subst hy;rintro rfl;exact hn hx
 intro p hp;rcases af.1 hp with hp|hp
 ·exact h.2 p hp
 simp only[aq]at hp;subst hp;exact⟨ha,hb⟩
theorem Qeq:∀(l m:List Df),l.Nodup->(∀x∈l,x∈m)->l.length<=m.length
 |[],m,_,_=>aK
 |x::l,m,hn,hs=>by
  have hx:=hs x aK;have:=Qeq l (m.erase x) (List.nodup_cons.1 hn).2 (fun y hy=>(List.mem_erase_of_ne (by rintro rfl;exact(List.nodup_cons.1 hn).1 hy)).2 (hs y fy));rw[List.length_erase_of_mem hx]at this;have:=List.length_pos_of_mem hx;simp only[List.length_cons];omega
def Qea(a b:List Cw):List Df:=a.flatMap fun x=>b.map fun y=>(x,y)
theorem Qbr(b:List Cw):∀a,(Qea a b).length=a.length*b.length
 |[]=>by simp[Qea]
 |x::a=>by
  have:=Qbr b a;unfold Qea at this ⊢;rw[List.flatMap_cons,ah,List.length_map,this,List.length_cons,Nat.add_mul];omega
theorem Mk.len{S T:List Ty}{m:List Df}(h:Mk S T m):m.length<=S.length*T.length:=by
 have:=Qeq m (Qea (Gf S) (Gf T)) h.1 (fun x hx=>by
  obtain⟨a,b⟩:=x;have:=h.2 _ hx;unfold Qea;rw[List.mem_flatMap];exact⟨a,this.1,ax.2 ⟨b,this.2,rfl⟩⟩)
 rw[Qbr]at this;simpa [Gf]using this
def Qlh(S T:List Ty)(K:Kd->Kd->List Df->Bool × List Df):Prop:=∀a b m,Mk S T m->Mk S T (K a b m).2/\∃l,(K a b m).2=m++l
theorem Mz{S T:List Ty}{K:Kd->Kd->List Df->Bool × List Df}(hK:Qlh S T K)(t:Ty)(st:UInt8):∀(gs:List Fd) (m:List Df),Mk S T m->Mk S T (Xm S T K t st gs m).2/\∃l,(Xm S T K t st gs m).2=m++l
 |[],m,h=>⟨h,[],by simp[Xm]⟩
 |g::gs,m,h=>by
  unfold Xm;cases Av t.fields g.tag with
  |none=>
   simp only;split
   ·exact Mz hK t st gs m h
   exact⟨h,[],by simp⟩
  |some f=>
   simp only;split
   ·exact Mz hK t st gs m h
   obtain⟨h1,l1,e1⟩:=hK f.kind g.kind m h;split
   ·exact⟨h1,l1,e1⟩
   split
   ·exact⟨h1,l1,e1⟩
   obtain⟨h2,l2,e2⟩:=Mz hK t st gs _ h1;exact⟨h2,l1++l2,by rw[e2,e1,List.append_assoc]⟩
theorem Pj(S T:List Ty):∀n,Qlh S T (Kg S T n)
 |0=>fun a b m h=>⟨h,[],by simp[Kg]⟩
 |n+1=>fun a b m h=>by
  unfold Kg;split
  ·exact⟨h,[],by simp⟩
  split
  ·exact⟨h,[],by simp⟩
  cases hs:Bt S a.name with
  |none=>exact⟨h,[],by simp⟩
  |some t=>cases ht:Bt T b.name with
   |none=>exact⟨h,[],by simp⟩
   |some u=>
    simp only;split
    ·exact⟨h,[],by simp⟩
    rename_i hn;have h1:=h.snoc (Gs.1 (by rw[hs];rfl)) (Gs.1 (by rw[ht];rfl)) hn;unfold evT;split
    ·exact⟨h1,_,rfl⟩
    obtain⟨h2,l2,e2⟩:=Mz (Pj S T n) t u.sort u.fields _ h1;exact⟨h2,[(a.name,b.name)]++l2,by rw[e2];simp⟩
def H8(S T:List Ty)(a b:Kd):Bool:=(Kg S T 65 a b []).1
def Ef(x y:Option (List Ty × Kd)):Bool:=match x,y with
 |some (S,a),some (T,b)=>H8 S T a b
 |_,_=>false
theorem Qe1{S:List Ty}{K:Kd->Kd->List Df->Bool × List Df}{t:Ty}(hd:t.fields.Pairwise fun g f=>g.name≠f.name/\g.tag<f.tag)(hK:∀f∈t.fields,∀m,t.sort≠69->(K f.kind f.kind m).1=true):
  ∀(gs:List Fd),(∀g∈gs,g∈t.fields)->∀m,(Xm S S K t t.sort gs m).1=true
 |[],_,m=>rfl
 |g::gs,hg,m=>by
  have hgm:=hg g aK;have hf:Av t.fields g.tag=some g:=by
   cases h:Av t.fields g.tag with
   |none=>
    have:=List.find?_eq_none.1 h g hgm;simp at this
   |some f=>
    have hm:=List.mem_of_find?_eq_some h;have ht:=List.find?_some h;simp only[decide_eq_true_eq]at ht;obtain⟨i,hi,rfl⟩:=List.mem_iff_getElem.1 hm;obtain⟨j,hj,rfl⟩:=List.mem_iff_getElem.1 hgm;rw[List.pairwise_iff_getElem]at hd;rcases Nat.lt_trichotomy i j with hij|hij|hij
    ·have:=(hd i j hi hj hij).2;omega
    ·subst hij;rfl
    have:=(hd j i hj hi hij).2;omega
  unfold Xm;rw[hf];simp only;have ih:=Qe1 (S:=S) hd hK gs (fun x hx=>hg x gG);split
  ·exact ih m
  rename_i hs;rw[if_neg (by rw[hK g hgm m hs];decide),if_neg aK];exact ih _
theorem Qeb{S:List Ty}(hS:Gy S):∀(n:Nat) (k:Kd) (m:List Df),Cc S k->(Kg S S n k k m).1=true
 |0,_,_,_=>rfl
 |n+1,k,m,hr=>by
  unfold Kg;rw[if_neg aK];split
  ·rfl
  rename_i hb;have hb':k.base=[64]:=by simpa using hb
  have h1:=hr hb';cases h:Bt S k.name with
  |none=>rw[h]at h1;cases h1
  |some t=>
   simp only;split
   ·rfl
   have htm:=(Cp h).1;have hto:=hS.1.1 t htm;unfold evT;rw[if_neg aK];exact Qe1 hto.2.2.1.2 (fun f hf m' hs=>Qeb hS n f.kind m' (hS.2.1 t htm hs f hf)) t.fields (fun _ h=>h) _
theorem Qd2{S:List Ty}(hS:Gy S){k:Kd}(hr:Cc S k):H8 S S k k=true:=Qeb hS 65 k [] hr
def Qz(R:Cw->Cw->Prop)(a b:Kd):Prop:=a.signs=b.signs/\a.base=b.base/\(a.base=[64]->R a.name b.name)
def P6(S T:List Ty)(R:Cw->Cw->Prop)(t:Ty)(st:UInt8)(g:Fd):Prop:=
 match Av t.fields g.tag with
 |none=>st=82
 |some f=>st=69\/(Qz R f.kind g.kind/\(st=82->J4 S f=J4 T g))
def Zm(S T:List Ty)(R:Cw->Cw->Prop)(a b:Cw):Prop:=∃t u,Bt S a=some t/\Bt T b=some u/\t.sort=u.sort/\∀g∈u.fields,P6 S T R t u.sort g
def Y6(S T:List Ty)(R:Cw->Cw->Prop):Prop:=∀a b,R a b->Zm S T R a b
abbrev inM(m:List Df)(a b:Cw):Prop:=(a,b)∈m
theorem Qz.mono{R Q:Cw->Cw->Prop}(h:∀a b,R a b->Q a b){a b:Kd}(hk:Qz R a b):Qz Q a b:=⟨hk.1,hk.2.1,fun e=>h _ _ (hk.2.2 e)⟩
theorem P6.mono{S T:List Ty}{R Q:Cw->Cw->Prop}(h:∀a b,R a b->Q a b){t:Ty}{st:UInt8}{g:Fd}(hk:P6 S T R t st g):P6 S T Q t st g:=by
 unfold P6 at hk ⊢;cases hf:Av t.fields g.tag with
 |none=>rw[hf]at hk;exact hk
 |some f=>
  rw[hf]at hk;rcases hk with hk|⟨x,y⟩
  ·exact .inl hk
  exact .inr ⟨x.mono h,y⟩
theorem Zm.mono{S T:List Ty}{R Q:Cw->Cw->Prop}(h:∀a b,R a b->Q a b){a b:Cw}(hk:Zm S T R a b):Zm S T Q a b:=by
 obtain⟨t,u,e1,e2,e3,e4⟩:=hk;exact⟨t,u,e1,e2,e3,fun g hg=>(e4 g hg).mono h⟩
def Qb4(S T:List Ty)(m m':List Df):Prop:=∀a b,(a,b)∈m'->(a,b)∉m->Zm S T (inM m') a b
theorem Qb4.trans{S T:List Ty}{m1 m2 m3:List Df}(h1:Qb4 S T m1 m2)(h2:Qb4 S T m2 m3)(hs:∀p∈m2,p∈m3):Qb4 S T m1 m3:=by
 intro a b h3 hn;by_cases h:(a,b)∈m2
 ·exact(h1 a b h hn).mono fun x y hxy=>hs _ hxy
 exact h2 a b h3 h
def Qnk(S T:List Ty)(n:Nat)(K:Kd->Kd->List Df->Bool × List Df):Prop:=
 ∀a b m,Mk S T m->64<n+m.length->(K a b m).1=true->Qz (inM (K a b m).2) a b/\Qb4 S T m (K a b m).2
theorem Sc{S T:List Ty}{n:Nat}{K:Kd->Kd->List Df->Bool × List Df}(hg:Qlh S T K)(hK:Qnk S T n K)(t:Ty)(st:UInt8):
  ∀(gs:List Fd) (m:List Df),Mk S T m->64<n+m.length->(Xm S T K t st gs m).1=true->(∀g∈gs,P6 S T (inM (Xm S T K t st gs m).2) t st g)/\Qb4 S T m (Xm S T K t st gs m).2
 |[],m,_,_,_=>⟨by simp,fun a b h hn=>absurd h hn⟩
 |g::gs,m,hm,hn,h=>by
  unfold Xm at h ⊢;cases hf:Av t.fields g.tag with
  |none=>
   rw[hf]at h;simp only at h ⊢;split at h
   ·rename_i h82;rw[if_pos h82];obtain⟨i1,i2⟩:=Sc hg hK t st gs m hm hn h;refine⟨fun x hx=>?_,i2⟩;rcases aA.1 hx with rfl|hx
    ·unfold P6;rw[hf];exact h82
    exact i1 x hx
   cases h
  |some f=>
   rw[hf]at h;simp only at h ⊢;split at h
   ·rename_i h69;rw[if_pos h69];obtain⟨i1,i2⟩:=Sc hg hK t st gs m hm hn h;refine⟨fun x hx=>?_,i2⟩;rcases aA.1 hx with rfl|hx
    ·unfold P6;rw[hf];exact .inl h69
    exact i1 x hx
   rename_i h69;rw[if_neg h69];split at h
   ·cases h
   rename_i hk1;rw[if_neg hk1];split at h
   ·cases h
   rename_i hk2;rw[if_neg hk2];have hk1':(K f.kind g.kind m).1=true:=by simpa using hk1
   obtain⟨k1,k2⟩:=hK _ _ m hm hn hk1';obtain⟨g1,l,g2⟩:=hg f.kind g.kind m hm;have hn2:64<n+(K f.kind g.kind m).2.length:=by rw[g2,ah];omega
   obtain⟨i1,i2⟩:=Sc hg hK t st gs _ g1 hn2 h;obtain⟨j1,l2,j2⟩:=Mz hg t st gs _ g1;have hsub:∀p∈(K f.kind g.kind m).2,p∈(Xm S T K t st gs (K f.kind g.kind m).2).2:=fun p hp=>by rw[j2];simp[hp]
   refine⟨fun x hx=>?_,k2.trans i2 hsub⟩;rcases aA.1 hx with rfl|hx
   ·unfold P6;rw[hf];exact .inr ⟨k1.mono fun a b hab=>hsub _ hab,fun h82=>Decidable.byContradiction fun hne=>hk2 ⟨h82,hne⟩⟩
   exact i1 x hx
theorem Qbx{S T:List Ty}(hS:S.length<=8)(hT:T.length<=8):∀n,Qnk S T n (Kg S T n)
 |0=>fun a b m hm hn h=>by
  have:=hm.len;have:S.length*T.length<=8*8:=Nat.mul_le_mul hS hT;omega
 |n+1=>fun a b m hm hn h=>by
  unfold Kg at h ⊢;split at h
  ·cases h
  rename_i hsb;rw[if_neg hsb];have hs1:a.signs=b.signs:=Decidable.byContradiction fun hh=>hsb (.inl hh);have hs2:a.base=b.base:=Decidable.byContradiction fun hh=>hsb (.inr hh);split at h
  ·rename_i hb;rw[if_pos hb];exact⟨⟨hs1,hs2,fun e=>absurd e hb⟩,fun a b h hn=>absurd h hn⟩
  rename_i hb;rw[if_neg hb];cases h1:Bt S a.name with
  |none=>rw[h1]at h;cases h
  |some t=>cases h2:Bt T b.name with
   |none=>rw[h1,h2]at h;cases h
   |some u=>
    rw[h1,h2]at h;simp only at h ⊢;split at h
    ·rename_i hin;rw[if_pos hin];exact⟨⟨hs1,hs2,fun _=>hin⟩,fun a b h hn=>absurd h hn⟩
    rename_i hin;rw[if_neg hin];have hm2:=hm.snoc (Gs.1 (by rw[h1];rfl)) (Gs.1 (by rw[h2];rfl)) hin;unfold evT at h ⊢;split at h
    ·cases h
    rename_i hso;rw[if_neg hso];obtain⟨i1,i2⟩:=Sc (Pj S T n) (Qbx hS hT n) t u.sort u.fields _ hm2 aM h;obtain⟨j1,l2,j2⟩:=Mz (Pj S T n) t u.sort u.fields _ hm2;have hab:(a.name,b.name)∈(Xm S T (Kg S T n) t u.sort u.fields (m++[(a.name,b.name)])).2:=by rw[j2];simp
    refine⟨⟨hs1,hs2,fun _=>hab⟩,fun x y hxy hn2=>?_⟩;by_cases he:(x,y)=(a.name,b.name)
    ·injection he with e1 e2;subst e1;subst e2;exact⟨t,u,h1,h2,by simpa using hso,i1⟩
    exact i2 x y hxy (by simp only[af,aq,not_or];exact⟨hn2,he⟩)
theorem Mt{S T:List Ty}(hS:S.length<=8)(hT:T.length<=8){a b:Kd}(h:H8 S T a b=true):∃R,Y6 S T R/\Qz R a b:=by
 obtain⟨h1,h2⟩:=Qbx hS hT 65 a b [] (Mk.nil S T) aK h;exact⟨_,fun x y hxy=>h2 x y hxy aK,h1⟩
def Qa6(ρ:Cw->Cw)(k:Kd):Kd:=if k.base=[64]then {k with name:=ρ k.name} else k
def Yk(ρ:Cw->Cw)(st:UInt8)(f:Fd):Fd:=if st=69 then f else {f with kind:=Qa6 ρ f.kind}
def Qdj(ρ:Cw->Cw)(t:Ty):Ty:={t with name:=ρ t.name,fields:=t.fields.map (Yk ρ t.sort)}
theorem Qao(ρ:Cw->Cw)(k:Kd):(Qa6 ρ k).signs=k.signs:=by unfold Qa6;split<;>rfl
theorem Sf(ρ:Cw->Cw)(k:Kd):(Qa6 ρ k).base=k.base:=by unfold Qa6;split<;>rfl
theorem Pk{ρ:Cw->Cw}{k:Kd}(h:k.base=[64]):(Qa6 ρ k).name=ρ k.name:=by unfold Qa6;rw[if_pos h]
theorem Qkf(ρ:Cw->Cw)(st:UInt8)(f:Fd):(Yk ρ st f).tag=f.tag:=by unfold Yk;split<;>rfl
theorem Qga(ρ:Cw->Cw)(st:UInt8)(f:Fd):(Yk ρ st f).given=f.given:=by unfold Yk;split<;>rfl
theorem Sj{ρ:Cw->Cw}{st:UInt8}(h:st≠69)(f:Fd):(Yk ρ st f).kind=Qa6 ρ f.kind:=by unfold Yk;rw[if_neg h]
def inN(ns:List Cw)(k:Kd):Prop:=k.base=[64]->k.name∈ns
structure Ren(S T:List Ty)(ns:List Cw)(ρ:Cw->Cw):Prop where
 get:∀n∈ns,∃t,Bt S n=some t/\Bt T (ρ n)=some (Qdj ρ t)/\Ft t/\(t.sort≠69->∀f∈t.fields,inN ns f.kind)
 inj:∀a∈ns,∀b∈ns,ρ a=ρ b->a=b
theorem Ren.met{S T:List Ty}{ns:List Cw}{ρ:Cw->Cw}(h:Ren S T ns ρ):∀(n:Nat) (k:Kd) (out:List Cw),inN ns k->(∀x∈out,x∈ns) ->
  Vr T n (Qa6 ρ k) (out.map ρ)=(Vr S n k out).map ρ/\∀x∈Vr S n k out,x∈ns
 |0,k,out,_,ho=>⟨rfl,ho⟩
 |n+1,k,out,hk,ho=>by
  by_cases hb:k.base=[64]
  ·have hkn:=hk hb;have hmem:ρ k.name∈out.map ρ↔k.name∈out:=by
    rw[ax];exact⟨fun⟨y,hy,e⟩=>by rw[<-h.inj y (ho y hy) k.name hkn e];exact hy,fun hy=>⟨_,hy,rfl⟩⟩
   by_cases hin:k.name∈out
   ·rw[Vr,Vr,if_neg (by rw[Pk hb];exact fun hh=>hh.2 (hmem.2 hin)),if_neg (fun hh=>hh.2 hin)];exact⟨rfl,ho⟩
   obtain⟨t,e1,e2,e3,e4⟩:=h.get _ hkn;have ho2:∀x∈out++[k.name],x∈ns:=fun x hx=>by
    rcases af.1 hx with hx|hx
    ·exact ho x hx
    simp at hx;subst hx;exact hkn
   rw[Vr,Vr,if_pos ⟨by rw[Sf];exact hb,by rw[Pk hb];exact fun hh=>hin (hmem.1 hh)⟩,if_pos ⟨hb,hin⟩,Pk hb,e1,e2];simp only;rw[show (Qdj ρ t).sort=t.sort from rfl,show (Qdj ρ t).fields=t.fields.map (Yk ρ t.sort)from rfl];have em:out.map ρ++[ρ k.name]=(out++[k.name]).map ρ:=aK;by_cases h69:t.sort=69
   ·rw[if_pos h69,if_pos h69];exact⟨em,ho2⟩
   rw[if_neg h69,if_neg h69,em];have key:∀(fs:List Fd),(∀f∈fs,inN ns f.kind)->∀(o:List Cw),(∀x∈o,x∈ns) ->
     (fs.map (Yk ρ t.sort)).foldl (fun o f=>Vr T n f.kind o) (o.map ρ)=(fs.foldl (fun o f=>Vr S n f.kind o) o).map ρ/\∀x∈fs.foldl (fun o f=>Vr S n f.kind o) o,x∈ns:=by
    intro fs;induction fs with
    |nil=>intro _ o ho;exact⟨rfl,ho⟩
    |cons f fs ih=>
     intro hfs o ho;obtain⟨m1,m2⟩:=h.met n f.kind o (hfs f aK) ho;simp only[ay,List.foldl_cons];rw[Sj h69,m1];exact ih (fun g hg=>hfs g (by simp[hg])) _ m2
   exact key t.fields (e4 h69) _ ho2
  rw[Vr,Vr,if_neg (fun hh=>hb (by rw[Sf]at hh;exact hh.1)),if_neg (fun hh=>hb hh.1)];exact⟨rfl,ho⟩
theorem Ren.stand{S T:List Ty}{ns:List Cw}{ρ:Cw->Cw}(h:Ren S T ns ρ):∀(n:Nat) (k:Kd),inN ns k->Qc6 k->Dt T n (Qa6 ρ k)=Dt S n k
 |0,_,_,_=>rfl
 |n+1,k,hk,hb=>by
  rw[Dt,Dt,Qao,Sf];split
  ·rfl
  split
  ·rfl
  split
  ·rfl
  rename_i h1;split
  ·rfl
  rename_i h2;split
  ·rfl
  rename_i h3;have hb64:k.base=[64]:=by
   rcases hb with⟨hb,_⟩|⟨hb|hb|hb,_⟩
   ·exact hb
   ·exact absurd hb h1
   ·exact absurd hb h2
   exact absurd hb h3
  obtain⟨t,e1,e2,e3,e4⟩:=h.get _ (hk hb64);rw[Pk hb64,e1,e2];simp only;rw[show (Qdj ρ t).sort=t.sort from rfl,show (Qdj ρ t).fields=t.fields.map (Yk ρ t.sort)from rfl];split
  ·rfl
  cases hf:t.fields with
  |nil=>rfl
  |cons f fs=>
   simp only[ay];rw[Qkf];split
   ·rfl
   rename_i h69;rw[Sj h69,h.stand n f.kind (e4 h69 f eF) ((e3.2.2.1.1 f eF).2.2.2.2 h69).1.2.1]
theorem Ren.of{S T:List Ty}{ns:List Cw}{ρ:Cw->Cw}(h:Ren S T ns ρ){st:UInt8}{f:Fd}(h69:st≠69)(hf:Tu st f)(hk:inN ns f.kind):J4 T (Yk ρ st f)=J4 S f:=by
 unfold J4;rw[Qga,Sj h69];unfold Xg;rw[h.stand 10 f.kind hk (hf.2.2.2.2 h69).1.2.1]
theorem Q5{t:Ty}(hd:t.fields.Pairwise fun g f=>g.name≠f.name/\g.tag<f.tag){g:Fd}(hgm:g∈t.fields):Av t.fields g.tag=some g:=by
 cases h:Av t.fields g.tag with
 |none=>
  have:=List.find?_eq_none.1 h g hgm;simp at this
 |some f=>
  have hm:=List.mem_of_find?_eq_some h;have ht:=List.find?_some h;simp only[decide_eq_true_eq]at ht;obtain⟨i,hi,rfl⟩:=List.mem_iff_getElem.1 hm;obtain⟨j,hj,rfl⟩:=List.mem_iff_getElem.1 hgm;rw[List.pairwise_iff_getElem]at hd;rcases Nat.lt_trichotomy i j with hij|hij|hij
  ·have:=(hd i j hi hj hij).2;omega
  ·subst hij;rfl
  have:=(hd j i hj hi hij).2;omega
theorem Ren.ends{S T:List Ty}{ns:List Cw}{ρ:Cw->Cw}(h:Ren S T ns ρ):∀(n:Nat) (t:Ty),(t.sort≠69->∀f∈t.fields,inN ns f.kind)->Cg T n (Qdj ρ t)=Cg S n t
 |0,_,_=>rfl
 |n+1,t,ht=>by
  unfold Cg;by_cases h85:t.sort=85
  ·have h69:t.sort≠69:=ew;unfold Gg;rw[show (Qdj ρ t).sort=t.sort from rfl,show (Qdj ρ t).fields=t.fields.map (Yk ρ t.sort)from rfl,if_pos h85,if_pos h85];cases hf:t.fields with
   |nil=>rfl
   |cons f fs=>
    simp only[ay];rw[Sj h69,Qao,Sf];by_cases hc:f.kind.signs=[]/\f.kind.base=[64]
    ·rw[if_pos hc,if_pos hc,Pk hc.2];obtain⟨u,e1,e2,e3,e4⟩:=h.get _ (ht h69 f eF hc.2);rw[e1,e2];exact h.ends n u e4
    rw[if_neg hc,if_neg hc]
  have e1:Gg T (Qdj ρ t)=none:=if_neg h85;have e2:Gg S t=none:=if_neg h85;rw[e1,e2]
def Qmj(v:Vl):Vl:=v.kids.headD v
def Mi(S:List Ty)(K:Kd->Vl->Vl × Bool)(fs:List Fd)(y:Vl):List Vl × Bool:=match Av fs y.tag with
 |none=>([],true)
 |some f=>if Bc (K f.kind (Qmj y)).1=J4 S f then([],true)else([.mk 61 [] y.tag [(K f.kind (Qmj y)).1]],(K f.kind (Qmj y)).2)
def Dj(S:List Ty):Nat->Kd->Vl->Vl × Bool
 |0,_,v=>(v,false)
 |d+1,a,v=>
  if a.signs≠[]then(.mk v.what v.text v.tag (v.kids.map fun x=>(Dj S d a.part x).1),v.kids.any fun x=>(Dj S d a.part x).2)
  else if a.base≠[64]then(v,false)
  else match Bt S a.name with
   |none=>(v,false)
   |some t=>
    if v.what=85 then(match Av t.fields v.tag with
     |none=>(v,false)
     |some f=>(.mk v.what v.text v.tag (v.kids.map fun x=>(Dj S d f.kind x).1),v.kids.any fun x=>(Dj S d f.kind x).2))
    else if v.what=82 then(.mk v.what v.text v.tag (v.kids.flatMap fun y=>(Mi S (Dj S d) t.fields y).1),v.kids.any fun y=>(Mi S (Dj S d) t.fields y).2)
    else(v,false)
theorem C7(S:List Ty)(d:Nat)(a:Kd)(w:UInt8)(tx:List UInt8)(tg:Nat)(ks:List Vl):Dj S (d+1) a (.mk w tx tg ks) =
  if a.signs≠[]then(.mk w tx tg (ks.map fun x=>(Dj S d a.part x).1),ks.any fun x=>(Dj S d a.part x).2)
  else if a.base≠[64]then(.mk w tx tg ks,false)
  else match Bt S a.name with
   |none=>(.mk w tx tg ks,false)
   |some t=>
    if w=85 then(match Av t.fields tg with
     |none=>(.mk w tx tg ks,false)
     |some f=>(.mk w tx tg (ks.map fun x=>(Dj S d f.kind x).1),ks.any fun x=>(Dj S d f.kind x).2))
    else if w=82 then(.mk w tx tg (ks.flatMap fun y=>(Mi S (Dj S d) t.fields y).1),ks.any fun y=>(Mi S (Dj S d) t.fields y).2)
    else(.mk w tx tg ks,false):=rfl
def LOk(v:Vl)(r:Vl × Bool):Prop:=(r.2=false->r.1=v)/\(r.2=true->(Bc r.1).length<(Bc v).length)
theorem LOk.le{v:Vl}{r:Vl × Bool}(h:LOk v r):(Bc r.1).length<=(Bc v).length:=by
 cases e:r.2 with
 |false=>rw[h.1 e];exact An _
 |true=>exact Nat.le_of_lt (h.2 e)
theorem LOk.same(v:Vl):LOk v (v,false):=⟨fun _=>rfl,fun h=>Bool.noConfusion h⟩
def Dq(ps:List (List UInt8)):Nat:=(ps.map fun p=>p.length+1).sum
theorem El(p:List UInt8)(ps:List (List UInt8)):Dq (p::ps)=p.length+1+Dq ps:=dU
theorem Bz(c:UInt8):∀ps:List (List UInt8),(Aw c ps).length=Dq ps - 1
 |[]=>rfl
 |[p]=>by simp[Aw,Dq]
 |p::q::ps=>by
  rw[De c p aK,ah,List.length_cons,Bz c (q::ps),El p,El q];omega
theorem Qmi{K:Vl->Vl × Bool}{ks:List Vl}(h:∀x∈ks,LOk x (K x)):
  ((ks.any fun x=>(K x).2)=false->(ks.map fun x=>(K x).1)=ks)/\Dq ((ks.map fun x=>(K x).1).map Bc)<=Dq (ks.map Bc)/\((ks.any fun x=>(K x).2)=true->Dq ((ks.map fun x=>(K x).1).map Bc)<Dq (ks.map Bc)):=by
 induction ks with
 |nil=>exact⟨fun _=>rfl,An _,fun h=>by simp at h⟩
 |cons x ks ih=>
  obtain⟨i1,i2,i3⟩:=ih fun y hy=>h y fy;have hx:=h x aK;have hl:=hx.le;simp only[ay,El,List.any_cons,Bool.or_eq_false_iff,Bool.or_eq_true];refine⟨fun e=>by rw[hx.1 e.1,i1 e.2],by omega,fun e=>?_⟩;rcases e with e|e
  ·have:=hx.2 e;omega
  have:=i3 e;omega
theorem Np(w:UInt8)(tx:List UInt8)(tg:Nat)(ks:List Vl):Bc (.mk w tx tg ks)=Jg w tx tg (ks.map Bc):=by rw[Bc,Vg]
theorem Jv(p:Fd × Vl):(Bc (Dr p)).length=(Bb p.1.tag).length+1+(Bc p.2).length:=by simp[Dr,Bc,Ed,Jg,Aw];omega
theorem Tl{fs:List Fd}{n:Nat}{f:Fd}(h:Av fs n=some f):f∈fs/\f.tag=n:=⟨(Ax h).2,(Ax h).1⟩
def P8(S:List Ty)(K:Kd->Vl->Vl × Bool)(fs:List Fd)(p:Fd × Vl):Option (Fd × Vl):=match Av fs p.1.tag with
 |none=>none
 |some f=>if Bc (K f.kind p.2).1=J4 S f then none else some (f,(K f.kind p.2).1)
theorem Qmg(S:List Ty)(K:Kd->Vl->Vl × Bool)(fs:List Fd)(p:Fd × Vl):(Mi S K fs (Dr p)).1=((P8 S K fs p).map Dr).toList:=by
 unfold Mi P8;have e1:(Dr p).tag=p.1.tag:=rfl;have e2:Qmj (Dr p)=p.2:=rfl;rw[e1,e2];cases h:Av fs p.1.tag with
 |none=>rfl
 |some f=>
  simp only;split
  ·rfl
  simp[Dr,(Ax h).1]
theorem Qbq(S:List Ty)(K:Kd->Vl->Vl × Bool)(fs:List Fd)(ps:List (Fd × Vl)):((ps.map Dr).flatMap fun y=>(Mi S K fs y).1)=(ps.filterMap (P8 S K fs)).map Dr:=by
 induction ps with
 |nil=>rfl
 |cons p ps ih=>
  rw[ay,List.flatMap_cons,ih,Qmg,List.filterMap_cons];cases P8 S K fs p<;>rfl
theorem M4{S:List Ty}{K:Kd->Vl->Vl × Bool}{fs:List Fd}{p q:Fd × Vl}(h:P8 S K fs p=some q):Av fs q.1.tag=some q.1/\q.1.tag=p.1.tag/\q.2=(K q.1.kind p.2).1/\Bc q.2≠J4 S q.1:=by
 unfold P8 at h;cases hf:Av fs p.1.tag with
 |none=>rw[hf]at h;cases h
 |some f=>
  rw[hf]at h;simp only at h;split at h
  ·cases h
  rename_i hn;injection h with h;subst h;have e:=(Ax hf).1;exact⟨by rw[e];exact hf,e,rfl,hn⟩
theorem Qmx{S:List Ty}{K:Kd->Vl->Vl × Bool}{fs:List Fd}{ps:List (Fd × Vl)}(h:∀p∈ps,∀f,Av fs p.1.tag=some f->LOk p.2 (K f.kind p.2)):
  (((ps.map Dr).any fun y=>(Mi S K fs y).2)=false->(ps.filterMap (P8 S K fs)).map Dr=ps.map Dr)/\Dq ((ps.filterMap (P8 S K fs)).map fun p=>Bc (Dr p))<=Dq (ps.map fun p=>Bc (Dr p)) /\
   (((ps.map Dr).any fun y=>(Mi S K fs y).2)=true->Dq ((ps.filterMap (P8 S K fs)).map fun p=>Bc (Dr p))<Dq (ps.map fun p=>Bc (Dr p))/\2<=Dq (ps.map fun p=>Bc (Dr p))):=by
 induction ps with
 |nil=>exact⟨fun _=>rfl,An _,fun h=>by simp at h⟩
 |cons p ps ih=>
  obtain⟨i1,i2,i3⟩:=ih fun q hq=>h q (by simp[hq]);have hx:=h p aK;have hlen:=Jv p;have eP:P8 S K fs p=match Av fs p.1.tag with|none=>none|some f=>if Bc (K f.kind p.2).1=J4 S f then none else some (f,(K f.kind p.2).1):=rfl
  have e1:Mi S K fs (Dr p)=match Av fs p.1.tag with|none=>([],true)|some f=>if Bc (K f.kind p.2).1=J4 S f then([],true)else([.mk 61 [] p.1.tag [(K f.kind p.2).1]],(K f.kind p.2).2):=rfl
  simp only[ay,El,List.any_cons,Bool.or_eq_false_iff,Bool.or_eq_true,List.filterMap_cons];cases hf:Av fs p.1.tag with
  |none=>
   simp only[hf]at eP e1;exact kB
  |some f=>
   have hk:=hx f hf;have hl:=hk.le;have et:=(Ax hf).1;simp only[hf]at eP e1;by_cases hc:Bc (K f.kind p.2).1=J4 S f
   ·rw[if_pos hc]at eP e1;exact kB
   rw[if_neg hc]at eP e1;rw[eP,e1];simp only[ay,El];have hl2:(Bc (Dr (f,(K f.kind p.2).1))).length=(Bb p.1.tag).length+1+(Bc (K f.kind p.2).1).length:=by rw[Jv];simp only;rw[et]
   refine⟨fun e=>?_,by omega,fun e=>⟨?_,by omega⟩⟩
   ·rw[i1 e.2,hk.1 e.1];congr 1
    show Vl.mk 61 [] f.tag [p.2]=.mk 61 [] p.1.tag [p.2];rw[et]
   rcases e with e|e
   ·have:=hk.2 e;omega
   have:=(i3 e).1;omega
theorem Mb{R:Cw->Cw->Prop}{a b:Kd}(h:Qz R a b):Qz R a.part b.part:=⟨by show a.signs.tail=b.signs.tail;rw[h.1],h.2⟩
theorem Sk{S T:List Ty}{R:Cw->Cw->Prop}(hR:Y6 S T R):∀(d:Nat) (a b:Kd) (v:Vl),Qz R a b->Jf T d b v->Jf S d a (Dj S d a v).1/\LOk v (Dj S d a v):=by
 intro d;induction d with
 |zero=>intro a b v _ h;cases h
 |succ d ih=>
  intro a b v hk h;obtain⟨k1,k2,k3⟩:=hk;cases h with
  |@n _ _ m hs hb h=>
   rw[C7,if_neg bR,if_pos dT];exact⟨.n (k1.trans hs) (k2.trans hb) h,LOk.same _⟩
  |@t _ _ s hs hb h=>
   rw[C7,if_neg bR,if_pos dT];exact⟨.t (k1.trans hs) (k2.trans hb) h,LOk.same _⟩
  |@f _ _ x hs hb=>
   rw[C7,if_neg bR,if_pos dT];exact⟨.f (k1.trans hs) (k2.trans hb),LOk.same _⟩
  |@lst _ _ r ks hs hl h=>
   rw[C7,if_pos bR];have hi:=fun x hx=>ih a.part b.part x (Mb ⟨k1,k2,k3⟩) (h x hx);obtain⟨m1,m2,m3⟩:=Qmi (K:=Dj S d a.part) (ks:=ks) fun x hx=>(hi x hx).2;refine⟨.lst (k1.trans hs) fZ ?_,?_,?_⟩
   ·intro x hx;obtain⟨y,hy,rfl⟩:=ax.1 hx;exact(hi y hy).1
   ·intro e;exact congrArg (Vl.mk 91 [] 0) (m1 e)
   intro e;have:=m3 e;simp only[Np]at this ⊢;simp[Jg,Bz];simp at this;have h0:ks≠[]:=by rintro rfl;simp at e
   cases ks with
   |nil=>exact absurd rfl h0
   |cons x ks=>simp only[ay,El]at this ⊢;omega
  |@non _ _ r hs=>
   rw[C7,if_pos bR];exact⟨.non (k1.trans hs),LOk.same _⟩
  |@som _ _ r x hs h=>
   rw[C7,if_pos bR];obtain⟨h1,h2⟩:=ih a.part b.part x (Mb ⟨k1,k2,k3⟩) h;refine⟨.som (k1.trans hs) h1,?_,?_⟩
   ·intro e;have:(Dj S d a.part x).2=false:=fz;exact congrArg (fun z=>Vl.mk 63 [] 0 [z]) (h2.1 this)
   intro e;have:(Dj S d a.part x).2=true:=fz;have:=h2.2 this;simp only[Np];simpa [Jg,Aw]using this
  |@enm _ _ u g hs hb ht h9 hf=>
   rw[C7,if_neg bR,if_neg ez];obtain⟨t,u2,e1,e2,e3,e4⟩:=hR _ _ (k3 (k2.trans hb));rw[ht]at e2;injection e2 with e2;subst e2;rw[e1];simp only;rw[if_neg (show ¬(69:UInt8)=85 by decide),if_neg (show ¬(69:UInt8)=82 by decide)];refine⟨?_,LOk.same _⟩;have:=e4 g (Ax hf).2;unfold P6 at this;cases h3:Av t.fields g.tag with
   |none=>rw[h3]at this;simp only at this;rw[h9]at this;exact absurd this aJ
   |some f=>
    have et:=(Ax h3).1;rw[<-et];exact .enm (k1.trans hs) (k2.trans hb) e1 (e3.trans h9) (by rw[et];exact h3)
  |@uni _ _ u g x hs hb ht h5 hf h=>
   rw[C7,if_neg bR,if_neg ez];obtain⟨t,u2,e1,e2,e3,e4⟩:=hR _ _ (k3 (k2.trans hb));rw[ht]at e2;injection e2 with e2;subst e2;rw[e1];simp only;rw[if_pos Ac];have:=e4 g (Ax hf).2;unfold P6 at this;cases h3:Av t.fields g.tag with
   |none=>rw[h3]at this;simp only at this;rw[h5]at this;exact absurd this aJ
   |some f=>
    rw[h3]at this;simp only at this;have hkr:=(this.resolve_left dS).1;obtain⟨h1,h2⟩:=ih f.kind g.kind x hkr h;have et:=(Ax h3).1;simp only;refine⟨?_,?_,?_⟩
    ·rw[<-et];exact .uni (k1.trans hs) (k2.trans hb) e1 (e3.trans h5) (by rw[et];exact h3) h1
    ·intro e;have:(Dj S d f.kind x).2=false:=fz;exact congrArg (fun z=>Vl.mk 85 [] g.tag [z]) (h2.1 this)
    intro e;have:(Dj S d f.kind x).2=true:=fz;have:=h2.2 this;simp only[Np];simpa [Jg,Aw]using this
  |@rcd _ _ u ps hs hb ht h82 hf h hn hp=>
   rw[C7,if_neg bR,if_neg ez];obtain⟨t,u2,e1,e2,e3,e4⟩:=hR _ _ (k3 (k2.trans hb));rw[ht]at e2;injection e2 with e2;subst e2;rw[e1];simp only;rw[if_neg (show ¬(82:UInt8)=85 by decide),if_pos Ac];have hkr:∀p∈ps,∀f,Av t.fields p.1.tag=some f->Jf S d f.kind (Dj S d f.kind p.2).1/\LOk p.2 (Dj S d f.kind p.2):=by
    intro p hp f h3;have:=e4 p.1 (Ax (hf p hp)).2;unfold P6 at this;rw[h3]at this;simp only at this;exact ih f.kind p.1.kind p.2 (this.resolve_left (by rw[h82];decide)).1 (h p hp)
   obtain⟨m1,m2,m3⟩:=Qmx (S:=S) (K:=Dj S d) (fs:=t.fields) (ps:=ps) fun p hp f h3=>(hkr p hp f h3).2;rw[Qbq];refine⟨.rcd (k1.trans hs) (k2.trans hb) e1 (e3.trans h82) ?_ ?_ ?_ ?_,?_,?_⟩
   ·intro q hq;obtain⟨p,hp,hpq⟩:=List.mem_filterMap.1 hq;exact(M4 hpq).1
   ·intro q hq;obtain⟨p,hp,hpq⟩:=List.mem_filterMap.1 hq;obtain⟨i1,i2,i3,_⟩:=M4 hpq;rw[i3];exact(hkr p hp q.1 (by rw[<-i2];exact i1)).1
   ·intro q hq;obtain⟨p,hp,hpq⟩:=List.mem_filterMap.1 hq;exact(M4 hpq).2.2.2
   ·rw[List.pairwise_filterMap];exact hp.imp fun hlt x hx y hy=>by rw[(M4 hx).2.1,(M4 hy).2.1];exact hlt
   ·intro e;exact congrArg (Vl.mk 82 [] 0) (m1 e)
   intro e;obtain⟨m4,m5⟩:=m3 e;simp only;rw[Mu,Mu];simp only[List.length_cons,ah,Bz,List.length_nil];omega
section
variable {P:Program}
end
theorem Qa9(a b:List (List UInt8)):Cb (a++b)=Cb a++Cb b:=by simp[Cb]
section
attribute [local go_sem] Qo7 Qok Qoa Ql9 ByteArray.mk_append_mk
theorem Qs(n:Nat)(w:World)(hn:n<10):
  Calls prog 33 #[.int .i64 n] w fun e w'=>e=.returned (.string ⟨(Bb n).toArray⟩)/\Below w w w':=by
 have Hfin:=Aa (Ff hn);have hcv:=fun W=>Mo W w 1 (Di (48+n));rw[Dm aH]at hcv;go_enter func33,ntmps33;go_wp2_with fail;exact kC
theorem Rt:∀(k n:Nat) (w:World),n<=k->n<=1000000000 ->
  Calls prog 33 #[.int .i64 n] w fun e w'=>e=.returned (.string ⟨(Bb n).toArray⟩)/\Below w w w':=by
 intro k;induction k with
 |zero=>intro n w hn h;exact Qs n w aH
 |succ k ih=>
  intro n w hn h;by_cases h10:n<10
  ·exact Qs n w h10
  have Hfin:=Aa (Pn h10);have Hs:=Aa (Ff (show n % 10<10 by omega));have Ih:=Aa (fun W=>ih (n / 10) W aH aH);have hl:=Dk 8 (n / 10) gD;have e1:((n:Int) / 10)=((n / 10:Nat):Int):=aH;have e2:((n:Int) % 10)=((n % 10:Nat):Int):=aH;have E1:=Aa e1;have E2:=Aa e2;clear ih e1 e2;go_enter func33,ntmps33;go_wp2_with fail;rw[E1.o];refine(Ih.o _).mono ?_;rintro e w1 ⟨rfl,hb1⟩;have Hb1:=Aa hb1;clear hb1;go_wp2_with fail;rw[E2.o];refine(Qs (n % 10) w1 aH).mono ?_;rintro e w2 ⟨rfl,hb2⟩;have Hb2:=Aa (Hb1.o.trans (hb2.mono Hb1.o.size));rw[Hs.o];clear hb2;go_wp2_with fail;go_ret;exact⟨by rw[Hfin.o];rfl,Hb2.o⟩
def Qnn(b:List UInt8):Prop:=b=[110]\/b=[116]\/b=[102]\/b=[64]
theorem Qiu{s:List UInt8}:Ck [110] s=(match Dc s with|some n=>decide (0<n)|none=>false):=rfl
theorem Qje{s:List UInt8}:Ck [116] s=(decide (2<s.length) && decide (s.head?=some 39) && decide (s.getLast?=some 39) && Dy (s.drop 1).dropLast):=rfl
theorem Qjs{s:List UInt8}:Ck [102] s=decide (s=[121,101,115]):=rfl
theorem Qhd(s:List UInt8)(w:World)(hs:s.length<=4000000):
  Calls prog 132 #[.string ⟨#[110]⟩,s] w fun e w'=>e=.returned (.bool (Ck [110] s))/\Below w w w':=by
 have Hp:=Aa (fun W=>Ju s 999999 W aH aH);have Hf:=Aa (Qiu (s:=s));cases hd:Dc s with
 |none=>
  rw[hd]at Hf;have Hv:=Aa (Tp (m:=999999) hd);clear hd;go_enter func132,ntmps132;go_wp2_with fail;refine(Hp.o _).mono ?_;rintro e w' ⟨rfl,rfl⟩;rw[Hv.o];go_wp2_with fail;go_ret;exact⟨Eu (Dg Hf.o.symm),Ap _ _⟩
 |some n=>
  rw[hd]at Hf;have h9:=(Co.1 hd).1;have Hv:=Aa (Yq (m:=999999) hd);have t1:decide (n<=999999)=true:=by simp;exact h9
  clear hd;rcases aG 0 n with hn|hn;all_goals
   go_enter func132,ntmps132;go_wp2_with fail;refine(Hp.o _).mono ?_;rintro e w' ⟨rfl,rfl⟩;rw[Hv.o,t1];go_wp2_with fail;go_ret;exact⟨Eu (Dg (by rw[Hf.o];first|done|(simp;try omega))),Ap _ _⟩
theorem Qf9(s:List UInt8)(w:World)(hs:s.length<=4000000):
  Calls prog 132 #[.string ⟨#[102]⟩,s] w fun e w'=>e=.returned (.bool (Ck [102] s))/\Below w w w':=by
 have Hf:=Aa (Qjs (s:=s));by_cases hy:s=[121,101,115]
 ·subst hy;go_enter func132,ntmps132;go_wp2_with fail;go_ret;exact⟨Eu (Dg (by rw[Hf.o];simp)),Ap _ _⟩
 have Hy:=Aa (show decide (s=[121,101,115])=false by simpa using hy);have ty:(s == [121,101,115])=false:=dK;clear hy;go_enter func132,ntmps132;go_wp2_with fail;go_ret;exact⟨Eu (Dg (by rw[Hf.o,Hy.o])),Ap _ _⟩
theorem Qep(s:List UInt8)(w:World):
  Calls prog 132 #[.string ⟨#[64]⟩,s] w fun e w'=>e=.returned (.bool (Ck [64] s))/\Below w w w':=by
 go_enter func132,ntmps132;go_wp2_with fail;exact kD
theorem Qgj(s:List UInt8)(w:World)(hs:s.length<=4000000):
  Calls prog 132 #[.string ⟨#[116]⟩,s] w fun e w'=>e=.returned (.bool (Ck [116] s))/\Below w w w':=by
 have hf:=Qje (s:=s);rcases aG 2 s.length with h2|h2
 ·obtain⟨c,u,d,rfl⟩:∃c u d,s=c::(u++[d]):=by
   cases s with
   |nil=>simp at h2
   |cons c t=>
    rcases Fp t with rfl|⟨u,d,rfl⟩
    ·simp at h2
    exact⟨c,u,d,rfl⟩
  have hl:(c::(u++[d])).getLast?=some d:=by
   exact ki
  have hu:((c::(u++[d])).drop 1).dropLast=u:=aK;rw[hl,hu]at hf;have t0:decide (2<(c::(u++[d])).length)=true:=fi;rw[t0]at hf;simp only[List.head?_cons,aj,Bool.true_and]at hf;have Hf:=Aa hf;have hc:=c.toNat_lt;have hd:=d.toNat_lt;have hgd:∀h,(c::(u++[d]))[u.length+1]'h=d:=by intro h;simp
  have hsl:(List.take u.length (u++[d]))=u:=aK;have hul:2<=u.length+1:=by simp at h2;omega
  have hul2:u.length<=4000000:=gT;clear hf hl hu h2 hs t0;by_cases hc39:c=39
  ·have t1:((c.toNat:Int) == 39)=true:=Bm hc39;have Hc:=Aa (show decide (c=39)=true by simpa using hc39);clear hc39;by_cases hd39:d=39
   ·have t2:((d.toNat:Int) == 39)=true:=Bm hd39;have Hd:=Aa (show decide (d=39)=true by simpa using hd39);clear hd39;go_enter func132,ntmps132;go_wp2_with fail;refine(Qg2 u _ aH).mono ?_;rintro e w' ⟨rfl,hb⟩;go_wp2_with fail;go_ret;exact⟨Eu (Dg (by rw[Hf.o,Hc.o,Hd.o];simp)),hb⟩
   have t2:((d.toNat:Int) == 39)=false:=Aq hd39;have Hd:=Aa (show decide (d=39)=false by simpa using hd39);clear hd39;go_enter func132,ntmps132;go_wp2_with fail;go_ret;exact⟨Eu (Dg (by rw[Hf.o,Hd.o];simp)),Ap _ _⟩
  have t1:((c.toNat:Int) == 39)=false:=Aq hc39;have Hc:=Aa (show decide (c=39)=false by simpa using hc39);clear hc39;go_enter func132,ntmps132;go_wp2_with fail;go_ret;exact⟨Eu (Dg (by rw[Hf.o,Hc.o];simp)),Ap _ _⟩
 have e0:decide (2<s.length)=false:=aM;have Hf:=Aa (show Ck [116] s=false by rw[hf,e0];simp);clear e0;have t0:decide (2<(s.length:Int))=false:=aM;clear hf;go_enter func132,ntmps132;go_wp2_with fail;go_ret;exact⟨Eu (Dg Hf.o.symm),Ap _ _⟩
theorem Qde(b s:List UInt8)(w:World)(hb:Qnn b)(hs:s.length<=4000000):
  Calls prog 132 #[b,s] w fun e w'=>e=.returned (.bool (Ck b s))/\Below w w w':=by
 rcases hb with rfl|rfl|rfl|rfl
 ·exact Qhd s w hs
 ·exact Qgj s w hs
 ·exact Qf9 s w hs
 exact Qep s w
theorem Ah{B:Nat}{w w':World}{b o:Nat}{cs:List Value}(h:w.rangeAt b o cs)(hb:b<B)(hw:Below B w w'):w'.rangeAt b o cs:=fun j v hv=>(hw.cell (p:=⟨b,o+j,none⟩) hb).trans (h j v hv)
theorem Aj{B:Nat}{w w':World}{b o n:Nat}(h:w.there b o n)(hb:b<B)(hw:Below B w w'):w'.there b o n:=fun j hj=>by
 rw[hw.cell (p:=⟨b,o+j,none⟩) hb,hw.frozen (p:=⟨b,o+j,none⟩) hb];exact h j hj
theorem Cz{w w':World}{b o:Nat}{cs:List Value}{row:Option Nat}(h:w.rangeAt b o cs)(hg:w.grownBy w' row)(hne:some b≠row):w'.rangeAt b o cs:=fun j v hv=>hg.cell (h j v hv) hne
theorem Ey{w w':World}{b o n:Nat}{row:Option Nat}(h:w.there b o n)(hg:w.grownBy w' row)(hb:b<w.heap.size)(hne:some b≠row):w'.there b o n:=fun j hj=>by
 rw[hg.cell_far ⟨b,o+j,none⟩ hb hne,hg.frozen_far ⟨b,o+j,none⟩ hb hne];exact h j hj
theorem M5{w:World}{b o n:Nat}(h:w.there b o n)(p m:Nat)(h1:o<=p)(h2:p+m<=o+n):w.there b p m:=fun j hj=>by
 have:=h (p+j - o) aH;rwa [show o+(p+j - o)=p+j by omega]at this
theorem Bk(w:World)(cs:List Value)(t:TypeId):(w.alloc (.cells cs.toArray t)).rangeAt w 0 cs:=fun j v hv=>by
 rw[World.cell?_alloc_new];simpa using hv
theorem Bu(w:World)(cs:List Value)(t:TypeId):(w.alloc (.cells cs.toArray t)).there w 0 cs.length:=fun j hj=>by
 refine⟨?_,by simp⟩;rw[World.cell?_alloc_new];simp;omega
theorem Ai{B:Nat}{a:World}(b:Nat)(hb:B<=b):∀(vs:List Value) (o:Nat) (w:World),Below B a w->Below B a (w.setCells b o vs)
 |[],_,_,h=>h
 |v::r,o,w,h=>Ai b hb r (o+1) _ (h.setCell hb v)
theorem Ce(b:Nat):∀(vs:List Value) (o:Nat) (w:World),(w.setCells b o vs).heap.size=w.heap.size
 |[],_,_=>rfl
 |v::r,o,w=>by rw[World.setCells,Ce b r];simp
theorem Ab{w:World}{b o:Nat}{cs:List Value}(h:w.rangeAt b o cs)(j:Nat){v:Value}(hv:cs[j]?=some v):w.cell? ⟨b,o+j,none⟩=some v:=h j v hv
theorem Qc3{w:World}{b o:Nat}(l1 l2 l3:List Value)(h:w.rangeAt b o (l1++(l2++l3))):w.rangeAt b (o+l1.length) l2:=fun j v hv=>by
 have hj:=(List.getElem?_eq_some_iff.1 hv).1;rw[Nat.add_assoc];exact h _ v (by rw[List.getElem?_append_right aH,Nat.add_sub_cancel_left,List.getElem?_append_left hj];exact hv)
theorem Cr{w:World}{b:Nat}(l1 l2 l3 l2':List Value)(h:w.rangeAt b 0 (l1++(l2++l3)))(hl:l2'.length=l2.length):(w.setCells b l1.length l2').rangeAt b 0 (l1++(l2'++l3)):=fun j v hv=>by
 have hjl:j<l1.length+(l2'.length+l3.length):=by
  have:=(List.getElem?_eq_some_iff.1 hv).1;simpa using this
 have hsome:∀i,i<l2'.length->(w.cell? ⟨b,l1.length+i,none⟩).isSome=true:=fun i hi=>by
  have e:(l1++(l2++l3))[l1.length+i]?=some (l2[i]' aH):=by
   rw[List.getElem?_append_right aH,List.getElem?_append_left aH,Nat.add_sub_cancel_left,List.getElem?_eq_getElem aH]
  have:=h _ _ e;rw[am]at this;rw[this];rfl
 rw[am];rcases aG j l1.length with h1|h1
 ·rw[World.cell?_setCells_out b l2' l1.length w ⟨b,j,none⟩ (fun _ _=>.inl h1)];rw[List.getElem?_append_left h1]at hv;have:=h j v (by rw[List.getElem?_append_left h1];exact hv);rwa [am]at this
 rw[List.getElem?_append_right h1]at hv;rcases aG (j - l1.length) l2'.length with h2|h2
 ·rw[List.getElem?_append_left h2,List.getElem?_eq_getElem h2]at hv;have:=World.cell?_setCells_in b l2' l1.length w hsome (j - l1.length) h2;rw[show l1.length+(j - l1.length)=j by omega]at this;rw[this];exact hv
 rw[World.cell?_setCells_out b l2' l1.length w ⟨b,j,none⟩ (fun _ _=>.inr (by show l1.length+l2'.length<=j;omega))];rw[List.getElem?_append_right h2]at hv;have:=h j v (by rw[List.getElem?_append_right h1,List.getElem?_append_right aH,<-hl];exact hv);rwa [am]at this
section
variable {P:Program}
theorem Ad{ops:Array Oper}{rest:List Oper}{op:Oper}{a:Act}{w:World}{Q:Exit->Act->World->Prop}(hgd:op.guard=none)(ty:TypeId)(x y:Operand)(ho:op.op=.store ty x y)
  (b o:Nat) (cs:List Value) (hx:a.eval x=.pointer (some ⟨b,o,none⟩)) (hy:a.eval y=.agg cs.toArray)
  (ht:w.there b o cs.length) (hi:(P.info? ty).map (·.size)=some cs.length) (h1:∀v∈cs,v.oneCell'=true)
  (h:∀w',Hid (w'=w.setCells b o cs)->wpList P ops Q rest (a.put op.dst undef) w'):wpList P ops Q (op::rest) a w:=
 wpList_store_mid hgd ty x y ho b o cs.toArray hx hy fl fj (all_oneCell_toArray h1) (h _ rfl)
theorem Am{fn:Func}{p q:Tmp}{ty:TypeId}(h:fn.results=#[.cell p ty,.tmp q])(tmps:Array Value)(w:World)(b:Nat)(cs:List Value)(d:TypeDesc)(x:Value)
  (hp:tmps.getD p undef=b) (hq:tmps.getD q undef=x) (hc:w.rangeAt b 0 cs) (hu:P.underlying ty=some d) (hd:d.isRow=true) (hi:(P.info? ty).map (·.size)=some cs.length):
  (results fn tmps).run P w=.ok (.tuple #[.agg cs.toArray,x]) w:=by
 have hp':tmps[p]?.getD undef=b:=eD;have hq':tmps[q]?.getD undef=x:=fk;simp[results,h,hp',hq',asAddr,run_loadVar_mid w b 0 ty cs d hc hu hd hi]
theorem H4{fn:Func}{r p q:Tmp}{ty:TypeId}(h:fn.results=#[.tmp r,.cell p ty,.tmp q])(tmps:Array Value)(w:World)(b:Nat)(cs:List Value)(d:TypeDesc)(y x:Value)
  (hr:tmps.getD r undef=y) (hp:tmps.getD p undef=b) (hq:tmps.getD q undef=x) (hc:w.rangeAt b 0 cs) (hu:P.underlying ty=some d) (hd:d.isRow=true) (hi:(P.info? ty).map (·.size)=some cs.length):
  (results fn tmps).run P w=.ok (.tuple #[y,.agg cs.toArray,x]) w:=by
 have hp':tmps[p]?.getD undef=b:=eD;have hq':tmps[q]?.getD undef=x:=fk;have hr':tmps[r]?.getD undef=y:=dJ;simp[results,h,hp',hq',hr',asAddr,run_loadVar_mid w b 0 ty cs d hc hu hd hi]
end
theorem Qb0(n:Nat)(w:World)(hn:n<10):
  Calls prog 46 #[.int .i64 n] w fun e w'=>e=.returned (.string ⟨(Bb n).toArray⟩)/\Below w w w':=by
 have Hfin:=Aa (Ff hn);have hcv:=fun W=>Mo W w 1 (Di (48+n));rw[Dm aH]at hcv;go_enter func46,ntmps46;go_wp2_with fail;exact kC
theorem Qg3(n:Nat)(h10:¬n<10)(hn:n<=1000000000)(ih:∀W,Calls prog 46 #[.int .i64 ((n / 10:Nat):Int)] W fun e w'=>e=.returned (.string ⟨(Bb (n / 10)).toArray⟩)/\Below W W w')(w:World):
  Calls prog 46 #[.int .i64 n] w fun e w'=>e=.returned (.string ⟨(Bb n).toArray⟩)/\Below w w w':=by
 have Hfin:=Aa (Pn h10);have ih':=Aa ih;have hl:=Dk 8 (n / 10) gD;clear ih;have hcv:=fun W g=>Mo W g 1 (Di (48+n % 10));have h1:IntKind.u8.wrap (IntKind.i64.wrap (48+(n:Int).tmod 10))=((Di (48+n % 10)).toNat:Int):=by
  rw[Dm aH,Int.tmod_eq_emod_of_nonneg aH,IntWalk.i64_in _ aH,IntWalk.u8_in _ aH];omega
 have h2:IntKind.i64.wrap ((n:Int) / 10)=((n / 10:Nat):Int):=im;go_enter func46,ntmps46;go_wp2_with fail;go_region_with (go_at_call 46;refine(ih'.out _).mono ?_;rintro e w' ⟨rfl,hb⟩;obtain⟨hc,hf,hz⟩:=Cj hb)
 all_goals
  go_wp2
  go_ret;refine⟨by rw[Hfin.o];rfl,?_⟩;have hsz:=hb.size;repeat (first|exact Ap _ _|refine Below.drew ?_|refine Below.alloc ?_ (by simp at hsz ⊢;first|omega|done) _|refine Below.trans ?_ (hb.mono aK))
theorem Gr:∀(k n:Nat) (w:World),n<=k->n<=1000000000 ->
  Calls prog 46 #[.int .i64 n] w fun e w'=>e=.returned (.string ⟨(Bb n).toArray⟩)/\Below w w w':=by
 intro k;induction k with
 |zero=>intro n w hn h;exact Qb0 n w aH
 |succ k ih=>
  intro n w hn h;by_cases h10:n<10
  ·exact Qb0 n w h10
  exact Qg3 n h10 h (fun W=>ih (n / 10) W aH aH) w
theorem Qa5(s:List UInt8)(k:Nat)(hk:k<=6)(h:(s.take k).all Bn=true):G6 (s.take k)<=999999:=by
 exact kt
def Ei(s:List UInt8)(top:Nat):Bool:=match Dc s with|some m=>decide (m<=top)|none=>false
theorem Pg{s:List UInt8}{top:Nat}(h:Dc s=none):Ei s top=false:=by unfold Ei;rw[h]
theorem Pv{s:List UInt8}{top n:Nat}(h:Dc s=some n):Ei s top=decide (n<=top):=by unfold Ei;rw[h]
def Qjq(s:List UInt8)(top:Nat)(w:World)(e:Ending)(w':World):Prop:=
 ∃n:Nat,n<=999999/\e=.returned (.tuple #[.int .i64 n,.bool (Ei s top)])/\(∀m,Dc s=some m->m=n)/\Below w w w'
theorem Ea(s:List UInt8)(m:Nat)(w:World)(hs:s.length<=4000000)(hm:m<=999999):
  Calls prog 107 #[s,.int .i64 m] w (Qjq s m w):=by
 go_enter func107,ntmps107;go_wp2_with fail;go_loop [6,7] (fun x i=>∃k:Nat,i=.int .i64 k/\k<=s.length/\k<=6/\Hid ((s.take k).all Bn=true)/\G6 (s.take k)<=999999/\x=.int .i64 ((G6 (s.take k):Nat):Int)) (fun _ i=>s.length - (intOf i).toNat)
 case atStart=>exact⟨0,rfl,ag _,by omega,by simp[Hid],by simp[G6],by simp[G6]⟩
 case round=>
  obtain⟨k,rfl,hk,hk6,hdig,hv,rfl⟩:=hrel;by_cases hlt:k<s.length
  ·have hc:=(s[k]).toNat_lt;have Hts:=Aa (Cn s k hlt);have Hmem:=Aa (ae hlt);by_cases hd:Bn s[k]=true
   ·have hd2:=D3.1 hd;obtain⟨d1,d2⟩:=hd2;by_cases h5:k<=5
    ·have hdig2:(s.take (k+1)).all Bn=true:=by
      rw[Hts.o,List.all_append,hdig.o];simp[hd]
     have hv2:=Qa5 s (k+1) aH hdig2;have Hdig2:=Aa hdig2;have Hv:=Aa (show G6 (s.take (k+1))=10*G6 (s.take k)+((s[k]).toNat - 48)by rw[Hts.o,M0]);clear hd hdig2;go_wp2_with fail;go_round
     case rel=>exact⟨k+1,by go_num,by omega,by omega,Hdig2.o,hv2,Qme (by rw[Hv.o];omega)⟩
     case measure=>simp[intOf];omega
    have h5':5<k:=aH;have hno:Dc s=none:=by
     unfold Dc;rw[if_neg];rintro⟨_,h,_⟩;omega
    have Hn:=Aa (Pg (top:=m) hno);have Hno:=Aa hno;clear hd hno h5;go_wp2_with fail;go_ret2;exact kN
   have hno:Dc s=none:=by
    unfold Dc;rw[if_neg];rintro⟨_,_,h,_⟩;exact hd (List.all_eq_true.1 h _ Hmem.o)
   have Hn:=Aa (Pg (top:=m) hno);have Hno:=Aa hno;have h2:(s[k]).toNat<48\/(48<=(s[k]).toNat/\57<(s[k]).toNat):=by
    rcases aG (s[k]).toNat 48 with h|h
    ·exact .inl h
    rcases aG 57 (s[k]).toNat with h'|h'
    ·exact .inr ⟨h,h'⟩
    exact absurd (D3.2 ⟨h,h'⟩) hd
   clear hd hno;rcases h2 with h2|⟨h2,h4⟩
   ·go_wp2_with fail;go_ret2;exact kN
   go_wp2_with fail;go_ret2;exact kN
  ·have e:s.take k=s:=au aH;rw[e]at hv ⊢;have hcase:(Dc s=some (G6 s)/\s=Bb (G6 s))\/(Dc s=none/\s≠Bb (G6 s)):=by
    by_cases h:s=Bb (G6 s)
    ·exact .inl ⟨Co.2 ⟨hv,h⟩,h⟩
    refine .inr ⟨?_,h⟩;cases hd:Dc s with
    |none=>rfl
    |some n=>
     obtain⟨_,h2⟩:=Co.1 hd;exact absurd (by rw[h2,Sa]) h
   clear hdig e;generalize G6 s=v at hv hcase;have hdl:=Dk 5 v gH;rcases hcase with⟨h1,h2⟩|⟨h1,h2⟩
   ·have Hn:=Aa (Pv (top:=m) h1);have Hd:=Aa h1;have tq:(s == Bb v)=true:=fi;clear h1 h2;by_cases hvm:v<=m
    ·go_wp2_with fail;refine(Gr v v _ (An _) aH).mono ?_;rintro e w1 ⟨rfl,hb⟩;have Hb:=Aa hb;clear hb;go_wp2_with fail;go_ret2;exact⟨v,hv,by rw[Hn.o];exact Qmb rfl (Dg (by simp[hvm])),(fun m h=>by rw[Hd.o]at h;injection h with h;exact h.symm),Hb.o⟩
    have hvm':m<v:=aH;go_wp2_with fail;refine(Gr v v _ (An _) aH).mono ?_;rintro e w1 ⟨rfl,hb⟩;have Hb:=Aa hb;clear hb;go_wp2_with fail;go_ret2;exact⟨v,hv,by rw[Hn.o];exact Qmb rfl (Dg aM),(fun m h=>by rw[Hd.o]at h;injection h with h;exact h.symm),Hb.o⟩
   have Hn:=Aa (Pg (top:=m) h1);have Hd:=Aa h1;have tq:(s == Bb v)=false:=fi;clear h1 h2;go_wp2_with fail;refine(Gr v v _ (An _) aH).mono ?_;rintro e w1 ⟨rfl,hb⟩;have Hb:=Aa hb;clear hb;go_wp2_with fail;go_ret2;exact⟨v,hv,by rw[Hn.o];rfl,(fun m h=>by rw[Hd.o]at h;cases h),Hb.o⟩
def Gx(s:List UInt8):Bool:=decide (2<=s.length) && decide (s.head?=some 39) && decide (s.getLast?=some 39) && Dy (s.drop 1).dropLast
theorem Qab(s:List UInt8)(w:World)(hs:s.length<=4000000):
  Calls prog 108 #[s] w fun e w'=>e=.returned (.bool (Gx s))/\w=w':=by
 have hf:Gx s=(decide (2<=s.length) && decide (s.head?=some 39) && decide (s.getLast?=some 39) && Dy (s.drop 1).dropLast):=rfl;rcases aG s.length 2 with h2|h2
 ·have e0:decide (2<=s.length)=false:=aM;have Hf:=Aa (show Gx s=false by rw[hf,e0];simp);have t0:decide ((s.length:Int)<2)=true:=aM;clear hf e0;go_enter func108,ntmps108;go_wp2_with fail;exact kh
 have t0:decide ((s.length:Int)<2)=false:=aM;rcases aG 14 s.length with h14|h14
 ·have Hf:=Aa (show Gx s=false by
   have:Dy (s.drop 1).dropLast=false:=by
    unfold Dy;have e1:decide ((s.drop 1).dropLast.length<=12)=false:=aM;rw[e1];rfl
   rw[hf,this];simp)
  have t1:decide (14<(s.length:Int))=true:=aM;clear hf;go_enter func108,ntmps108;go_wp2_with fail;exact kh
 obtain⟨c,u,d,rfl⟩:∃c u d,s=c::(u++[d]):=by
  cases s with
  |nil=>simp at h2
  |cons c t=>
   rcases Fp t with rfl|⟨u,d,rfl⟩
   ·simp at h2
   exact⟨c,u,d,rfl⟩
 have hl:(c::(u++[d])).getLast?=some d:=by
  exact ki
 have hu:((c::(u++[d])).drop 1).dropLast=u:=aK;have e2:decide (2<=(c::(u++[d])).length)=true:=aK;rw[hl,hu,e2]at hf;simp only[List.head?_cons,aj,Bool.true_and]at hf;have Hf:=Aa hf;have hc:=c.toNat_lt;have hd:=d.toNat_lt;have hgd:∀h,(c::(u++[d]))[u.length+1]'h=d:=by intro h;simp
 have hul:u.length<=12:=by simp at h14;omega
 have Hfit:=Aa (show Dy u=u.all Ct by simp[Dy,hul]);clear hf hl hu h2 hs h14 t0 e2;by_cases hc39:c=39
 ·have t1:((c.toNat:Int) != 39)=false:=by have:=Bm hc39;simpa using this
  have Hc:=Aa (show decide (c=39)=true by simpa using hc39);clear hc39;by_cases hd39:d=39
  ·have t2:((d.toNat:Int) != 39)=false:=by have:=Bm hd39;simpa using this
   have Hd:=Aa (show decide (d=39)=true by simpa using hd39);clear hd39;go_enter func108,ntmps108;go_wp2_with fail;go_loop [3] (fun i=>∃k:Nat,i=.int .i64 ((k:Int)+1)/\k<=u.length/\Hid ((u.take k).all Ct=true)) (fun i=>u.length+1 - (intOf i).toNat)
   case atStart=>exact⟨0,rfl,ag _,by simp[Hid]⟩
   case round=>
    obtain⟨k,rfl,hk,hin⟩:=hrel;by_cases hlt:k<u.length
    ·have hg:∀h,(c::(u++[d]))[k+1]'h=u[k]:=by intro h;simp[List.getElem_append_left hlt]
     have Hts:=Aa (Cn u k hlt);have Hmem:=Aa (ae hlt);have hx:=(u[k]).toNat_lt;generalize u[k]=x at hg Hts Hmem hx;by_cases ht:Ct x=true
     ·have Hin:=Aa (show (u.take (k+1)).all Ct=true by rw[Hts.o,List.all_append,hin.o];simp[ht]);have h3:x=32\/(x.toNat≠32/\48<=x.toNat/\x.toNat<=57)\/(57<x.toNat/\97<=x.toNat/\x.toNat<=122):=by
       unfold Ct at ht;simp only[Bool.or_eq_true]at ht;rcases ht with(h|h)|h
       ·have:=Ph.1 h;exact .inr (.inr ⟨by omega,this⟩)
       ·have:=D3.1 h;exact .inr (.inl ⟨by omega,this⟩)
       exact .inl aQ
      clear ht;rcases h3 with h3|⟨h3,h4,h5⟩|⟨h3,h4,h5⟩
      ·have t3:((x.toNat:Int) != 32)=false:=by have:=Bm h3;simpa using this
       clear h3;go_wp2_with fail;go_round
       case rel=>exact⟨k+1,by go_num,by omega,Hin.o⟩
       case measure=>simp[intOf];omega
      ·have t3:((x.toNat:Int) != 32)=true:=fa;go_wp2_with fail;go_round
       case rel=>exact⟨k+1,by go_num,by omega,Hin.o⟩
       case measure=>simp[intOf];omega
      have t3:((x.toNat:Int) != 32)=true:=fa;go_wp2_with fail;go_round
      case rel=>exact⟨k+1,by go_num,by omega,Hin.o⟩
      case measure=>simp[intOf];omega
     have Hno:=Aa (show u.all Ct=false by
      cases h:u.all Ct with
      |false=>rfl
      |true=>exact absurd (List.all_eq_true.1 h _ Hmem.o) ht)
     have h32:x≠32:=by rintro rfl;exact ht rfl
     have t3:((x.toNat:Int) != 32)=true:=by have:=Aq h32;simpa using this
     have h3:x.toNat<48\/(57<x.toNat/\x.toNat<97)\/122<x.toNat:=by
      have a:¬Ki x=true:=fun h=>ht (by simp[Ct,h]);have b:¬Bn x=true:=fun h=>ht (by simp[Ct,h]);rw[Ph]at a;rw[D3]at b;omega
     clear ht h32;rcases h3 with h3|⟨h3,h4⟩|h3;all_goals
      go_wp2_with fail;go_ret;exact⟨Eu (Dg (by rw[Hf.o,Hc.o,Hd.o,Hfit.o,Hno.o];rfl)),rfl⟩
    ·have Hall:=Aa (show u.all Ct=true by
      have:=hin.o;rwa [au aH]at this)
     have hk2:k=u.length:=aH;subst hk2;go_wp2_with fail;go_ret;exact⟨Eu (Dg (by rw[Hf.o,Hc.o,Hd.o,Hfit.o,Hall.o];rfl)),rfl⟩
  have t2:((d.toNat:Int) != 39)=true:=by have:=Aq hd39;simpa using this
  have Hd:=Aa (show decide (d=39)=false by simpa using hd39);clear hd39;go_enter func108,ntmps108;go_wp2_with fail;go_ret;exact⟨Eu (Dg (by rw[Hf.o,Hd.o];simp)),rfl⟩
 have t1:((c.toNat:Int) != 39)=true:=by have:=Aq hc39;simpa using this
 have Hc:=Aa (show decide (c=39)=false by simpa using hc39);clear hc39;go_enter func108,ntmps108;go_wp2_with fail;go_ret;exact⟨Eu (Dg (by rw[Hf.o,Hc.o];simp)),rfl⟩
section
variable {P:Program}
theorem Pl(w:World)(base:Nat)(t ty e:TypeId)(i:TypeInfo)(z:Value)(size bytes:Nat)(ht:P.underlying t=some (.slice e))(hi:P.info? e=some i)(hz:i.zero=some z)
  (hsize:i.size=size) (hby:i.bytes=bytes) (hzs:z.cells.size=size) (hsz:0<size)
  (v:Value) (n:Nat) (xs:List Value) (hown:w.ownsRow base e size v n xs)
  (a:Addr) (m c:Nat) (news:List Value) (hl:news.length=m*size) (hnews:∀j u,news[j]?=some u->w.cell? (a.add j)=some u) (h1:∀u∈news,u.oneCell'=true)
  (hm:0<m) (h63:n+m<=maxLen) (hbytes:(n+m)*bytes<=140737488355328) (hbase:base<=w.heap.size):
  ∃v' w',(Builtin.append_ #[t,t] ty #[v,.slice (some a) m c]).run P w=.ok v' w'/\w'.ownsRow base e size v' (n+m) (xs++news)/\w.grownBy w' v.ownBlock /\
   (v'.ownBlock=v.ownBlock\/∃k,v'.ownBlock=some k/\w.heap.size<=k):=by
 obtain⟨v',w',hr,h2,h3,_⟩:=run_append_own (P:=P) w base t ty e i z size bytes ht hi hz hsize hby hzs hsz v n xs hown a m c news hl hnews h1 h63 hbytes hbase;refine⟨v',w',hr,h2,h3,?_⟩;subst hsize;subst hby;have h63':n+m<=9223372036854775807:=by simp only[maxLen]at h63;omega
 rcases hown.2 with⟨rfl,rfl⟩|⟨g,cap,cur,rfl,hbg,hg,hnc,hcm,hcs,htake⟩
 ·have hq:=run_append_nil (P:=P) w t ty e i z ht hi hz a m c news hl hnews hm aH (by have hb:=hbytes;simp only[am]at hb;omega);exact kZ
 by_cases hroom:n+m<=cap
 ·have hfit:n*i.size+news.length<=cur.size:=by rw[hl,hcs,<-Nat.add_mul];exact Nat.mul_le_mul_right _ hroom
  have hq:=run_append_room (P:=P) w t ty e i ht hi g n cap cur hg a m c news hl hnews h1 hroom hfit;rw[hq]at hr;injection hr with e1 _;subst e1;exact .inl rfl
 have holds:∀j u,xs[j]?=some u->w.cell? ((⟨g,0,none⟩:Addr).add j)=some u:=hown.cells (g:=g) rfl;have hq:=run_append_grow (P:=P) w t ty e i z ht hi hz ⟨g,0,none⟩ n cap xs hown.1 holds a m c news hl hnews aH aH (growslice_fits aH hbytes);exact kZ
theorem Fk(w:World){ops:Array Oper}{rest:List Oper}{o:Oper}{a:Act}{Q:Exit->Act->World->Prop}(hgd:o.guard=none)(s x:Operand)(t:TypeId)
  (ho:o.op=.call {callee:=.builtin .append,args:=#[s,x],argTypes:=#[t,t]})
  (base:Nat) (e:TypeId) (z:Value) (bytes:Nat) (ht:P.underlying t=some (.slice e)) (hinfo:(P.info? e).map (fun i=>(i.zero,i.size,i.bytes))=some (some z,1,bytes))
  (hzs:z.cells.size=1) (W:World) (u:Value) (hw:w=W.alloc (.cells #[u] e)) (hu:u.oneCell'=true) (v:Value) (n:Nat) (xs:List Value) (hs:a.eval s=v) (hx:a.eval x=.slice (W,0) 1 1)
  (hown:W.ownsRow base e 1 v n xs)
  (h63:n+1<=maxLen) (hbytes:(n+1)*bytes<=140737488355328) (hbase:base<=W.heap.size)
  (h:∀v' w',w'.ownsRow base e 1 v' (n+1) (xs++[u])->W.grownBy w' v.ownBlock->(v'.ownBlock=v.ownBlock\/∃k,v'.ownBlock=some k/\W.heap.size<=k)->wpList P ops Q rest (a.put o.dst v') w'):wpList P ops Q (o::rest) a w:=by
 subst hw;obtain⟨i0,hi,hz0,hz1,hz2⟩:=info_parts hinfo
 obtain⟨v',w',hrun,r1,r2,r3⟩:=Pl (P:=P) (W.alloc (.cells #[u] e)) base t o.type e i0 z 1 bytes ht hi hz0 hz1 hz2 hzs aJ v n xs (hown.alloc _) ⟨W.heap.size,0,none⟩ 1 1 [u] rfl (by
  intro j y hj;match j,hj with
  |0,hj=>simp at hj;subst hj;simp[Addr.add,World.cell?_alloc_new]) (by intro y hy;simp at hy;subst hy;exact hu) aJ h63 hbytes aM
 refine wpList_plain hgd fun K' hK'=>?_;unfold Oper.wp;simp[execOp,ho,resolve,invoke,builtin,hs,hx,hrun,Result.andThen];refine hK' _ _ (h v' w' r1 ?_ ?_)
 ·exact jE
 rcases r3 with r3|⟨k,r3,r4⟩
 ·exact .inl r3
 exact .inr ⟨k,r3,by simp at r4;omega⟩
end
end
section
variable {P:Program}
theorem Fl(W:World){o:Oper}{a:Act}{K:Act->World->Prop}{Q:Exit->Act->World->Prop}(s x:Operand)(t:TypeId)
  (ho:o.op=.call {callee:=.builtin .append,args:=#[s,x],argTypes:=#[t,t]})
  (base:Nat) (e:TypeId) (z:Value) (k bytes:Nat) (ht:P.underlying t=some (.slice e)) (hinfo:(P.info? e).map (fun i=>(i.zero,i.size,i.bytes))=some (some z,k,bytes))
  (hzs:z.cells.size=k) (hk:0<k) (us:List Value) (hul:us.length=k) (hu:∀u∈us,u.oneCell'=true) (v:Value) (n:Nat) (xs:List Value) (hs:a.eval s=v) (hx:a.eval x=.slice (W,0) 1 1)
  (hown:W.ownsRow base e k v n xs) (h63:n+1<=maxLen) (hbytes:(n+1)*bytes<=140737488355328) (hbase:base<=W.heap.size)
  (h:∀v' w',w'.ownsRow base e k v' (n+1) (xs++us)->W.grownBy w' v.ownBlock->(v'.ownBlock=v.ownBlock\/∃k,v'.ownBlock=some k/\W.heap.size<=k)->K (a.put o.dst v') w'):Oper.wp P o a (W.alloc (.cells us.toArray e)) K Q:=by
 obtain⟨i0,hi,hz0,hz1,hz2⟩:=info_parts hinfo
 obtain⟨v',w',hrun,r1,r2,r3⟩:=Pl (P:=P) (W.alloc (.cells us.toArray e)) base t o.type e i0 z k bytes ht hi hz0 hz1 hz2 hzs hk v n xs (hown.alloc _) ⟨W.heap.size,0,none⟩ 1 1 us aH (by
  intro j y hj;have e1:(⟨W.heap.size,0,none⟩:Addr).add j=⟨W.heap.size,j,none⟩:=bD;rw[e1,World.cell?_alloc_new];simpa using hj) hu aJ h63 hbytes aM
 unfold Oper.wp;simp[execOp,ho,resolve,invoke,builtin,hs,hx,hrun,Result.andThen];refine h v' w' r1 ?_ ?_
 ·exact jE
 rcases r3 with r3|⟨k,r3,r4⟩
 ·exact .inl r3
 exact .inr ⟨k,r3,by simp at r4;omega⟩
theorem Mw(W:World){ops:Array Oper}{rest:List Oper}{o:Oper}{a:Act}{Q:Exit->Act->World->Prop}(hgd:o.guard=none)(s x:Operand)(t:TypeId)
  (ho:o.op=.call {callee:=.builtin .append,args:=#[s,x],argTypes:=#[t,t]})
  (base:Nat) (e:TypeId) (z:Value) (k bytes:Nat) (ht:P.underlying t=some (.slice e)) (hinfo:(P.info? e).map (fun i=>(i.zero,i.size,i.bytes))=some (some z,k,bytes))
  (hzs:z.cells.size=k) (hk:0<k) (us:List Value) (hul:us.length=k) (hu:∀u∈us,u.oneCell'=true) (v:Value) (n:Nat) (xs:List Value) (hs:a.eval s=v) (hx:a.eval x=.slice (W,0) 1 1)
  (hown:W.ownsRow base e k v n xs) (h63:n+1<=maxLen) (hbytes:(n+1)*bytes<=140737488355328) (hbase:base<=W.heap.size)
  (h:∀v' w',w'.ownsRow base e k v' (n+1) (xs++us)->W.grownBy w' v.ownBlock->(v'.ownBlock=v.ownBlock\/∃k,v'.ownBlock=some k/\W.heap.size<=k)->wpList P ops Q rest (a.put o.dst v') w'):wpList P ops Q (o::rest) a (W.alloc (.cells us.toArray e)):=
 wpList_plain hgd fun K' hK'=>Fl W s x t ho base e z k bytes ht hinfo hzs hk us hul hu v n xs hs hx hown h63 hbytes hbase fun v' w' h1 h2 h3=>hK' _ _ (h v' w' h1 h2 h3)
end
end Go.Proofs.YtbdibdghphdcdaaGreatDoor
