/- Texts joined. Conditions: as each theorem names them. -/
import Derived.Deep.RegionWith
import Derived.Lib.Builder
import Derived.Lib.AppendStr
import Derived.Lib.UnsafeStr
import Derived.Lib.MakeNoZero
import Derived.Laws.Externs
import Derived.Laws.BitsLemmas
import Derived.RegionTactic
import Derived.Test.YtgfmljfjgohdcaaGreatDoorL27
set_option maxRecDepth 100000
set_option maxHeartbeats 32000000
set_option linter.unusedVariables false
set_option linter.unusedSimpArgs false
namespace Go.Proofs.YtgfmljfjgohdcaaGreatDoor
open Go.RowKit Go.Proofs.Tryz
section
attribute [local go_sem] Qls Qkr Qj4 Qig ByteArray.mk_append_mk
theorem Qc7(v:Value)(vs:List J0)(w:World)(h:Fi w v vs)(hn:vs.length<=1048577)(hl:∀x∈vs,x.1.length<=4000000/\x.2.length<=4000000):
  Calls prog 124 #[.agg #[v]] w fun e w'=>e=.returned (.bool (Ms vs))/\Below w w w':=by
 obtain⟨A,c,rfl,hcap,hvm,hr⟩:=h;have Hr:=Aa hr;have Hl:=Aa hl;clear hr hl;go_enter func124,ntmps124;by_cases h5:vs.length<=5
 ·have h5i:(vs.length:Int)<=5:=aF;have h5j:¬(5:Int)<(vs.length:Int):=aF;have H5:=Aa h5;go_wp2_with fail;go_loopw [17] (fun q wr=>∃k:Nat,q=.int .i64 k/\k<=vs.length/\Hid (∀i',i'<k->∀k',k'<=i'->Xw (Dq vs i') (Dq vs k')=true)/\Hid (Below w w wr)/\w.heap.size<wr.heap.size/\wr.cell? (w,0)=some (.slice A vs.length c)) (fun q _=>vs.length - (intOf q).toNat)
  case atStart=>exact⟨0,rfl,ae _,fun i' hi'=>by omega,(Ar _ _).alloc (Am _) _,by simp,by simp⟩
  case round=>
   obtain⟨i,rfl,hi,hin,hb,hsz,hc0⟩:=hrel;have i1:(0:Int)<=(i:Int):=aF;by_cases hlt:i<vs.length
   ·have i2:(i:Int)<(vs.length:Int):=aF;obtain⟨b1,o1,rfl,hbl1,x0,x1⟩:=Fi.at_ (Hr.o.below hb.o) hlt;have hxl:=Hl.o _ (ac hlt);have Hxv:=@Aa (Dq vs i=vs[i]) (Kf hlt);generalize vs[i]=x at x0 x1 hxl Hxv;have Hbo:=Aa (fun W=>Ph x.1 x.2 W hxl.1 hxl.2);have Hev:=Aa (fun(y:J0) (hy:y∈vs) W=>Qbn x.1 x.2 y.1 y.2 W hxl.1 hxl.2 (Hl.o y hy).1 (Hl.o y hy).2);have Hsz:=Aa hsz;have Hc0:=Aa hc0;clear hxl hc0;have hc0:=Hc0.o;go_wp2_with fail;refine(Hbo.o _).mono ?_;rintro e w3 hp;obtain⟨qq,a1,b2,c2,rfl,hb3,_⟩:=hp.form;have hwz:wr.heap.size<w3.heap.size:=fc;have y0:w3.cell? (wr,0)=x.1:=(hb3.cell (p:=⟨wr.heap.size,0,none⟩) aH).trans aH;have y1:w3.cell? (wr,1)=x.2:=(hb3.cell (p:=⟨wr.heap.size,1,none⟩) aH).trans aH;have Hb3:=@Aa (Below wr wr w3) (((Ar _ _).alloc (Am _) _).trans (hb3.mono aH));have Y0:=Aa y0;have Y1:=Aa y1;have C0:=Aa ((Hb3.o.cell (p:=⟨w.heap.size,0,none⟩) Hsz.o).trans Hc0.o);have Hbw:=Aa (hb.o.trans (Hb3.o.mono hb.o.size));have Hself:=Aa (fun(hs:(Bn x.1 x.2).isSome=true)=>Qgh (v:=x) hs);have Hnone:=Aa (fun(hs:(Bn x.1 x.2).isSome=false)=>Qkm (v:=x) (Dq vs i) hs);generalize (Bn x.1 x.2).isSome=ok at *;clear hp hb3 x0 x1 y0 y1 hc0;cases ok with
    |false=>
     have Hno:=Aa (T7 hlt (Am _) (by rw[Hxv.o]at *;exact Hnone.o rfl));go_wp2_with fail;go_ret;exact⟨by rw[Hno.o];rfl,Hbw.o.alloc Hbw.o.size _⟩
    |true=>
     have Hs:=Aa (Hself.o rfl);have c0':=C0.o;have hzo:w.heap.size<w3.heap.size:=aF;have hicap:(i:Int)<=(c:Int):=aF;go_wp2_with fail;obtain⟨W5,hW5⟩:∃W5,W5=w3.alloc (.cells #[.string a1,.string b2,.string c2] 67):=⟨_,rfl⟩
     rw[<-hW5];have hb5:Below w3 w3 W5:=dx;have hz5:w3.heap.size<W5.heap.size:=by rw[hW5];simp
     have Hbw5:=Aa (Hbw.o.trans (hb5.mono Hbw.o.size));have Z0:=Aa ((hb5.cell (p:=⟨wr.heap.size,0,none⟩) hwz).trans Y0.o);have Z1:=Aa ((hb5.cell (p:=⟨wr.heap.size,1,none⟩) hwz).trans Y1.o);have D0:=Aa ((hb5.cell (p:=⟨w.heap.size,0,none⟩) hzo).trans C0.o);obtain⟨wo,hwo⟩:∃wo:Nat,wo=wr.heap.size:=⟨_,rfl⟩
     rw[<-hwo]at Z0 Z1 hwz ⊢;clear hW5 hb5 c0' Y0 Y1 C0 hwo;go_loopw [38] (fun q wr=>∃k:Nat,q=.int .i64 k/\k<=i/\Hid (∀k',k'<k->Xw (Dq vs i) (Dq vs k')=true)/\Hid (Below W5 W5 wr)) (fun q _=>i - (intOf q).toNat)
     case atStart=>exact⟨0,rfl,ae _,fun k' hk'=>by omega,Ar _ _⟩
     case round=>
      obtain⟨k,rfl,hk,hkin,hb'⟩:=hrel;have k1:(0:Int)<=(k:Int):=aF;have z0:wr.cell? (wo,0)=x.1:=(hb'.out.cell (p:=⟨wo,0,none⟩) (show wo<W5.heap.size by omega)).trans Z0.o;have z1:wr.cell? (wo,1)=x.2:=(hb'.out.cell (p:=⟨wo,1,none⟩) (show wo<W5.heap.size by omega)).trans Z1.o;have Hbk:=Aa (Hbw5.o.trans (hb'.out.mono Hbw5.o.size));have hz':wo<wr.heap.size:=by have:=hb'.out.size;omega
      have hzn:¬(wo=wr.heap.size):=aF;by_cases hkl:k<i
      ·have k2:(k:Int)<(i:Int):=aF;obtain⟨b1',o1',e1,hbl',y0,y1⟩:=Fi.at_ (Hr.o.below Hbk.o) (show k<vs.length by omega);obtain⟨rfl,rfl⟩:b1=b1'/\o1=o1':=dV;have hym:=ac (show k<vs.length by omega);have Hyv:=@Aa (Dq vs k=vs[k]' aF) (Kf aF);generalize vs[k]'(show k<vs.length by omega)=y at y0 y1 hym Hyv;have Hcall:=Aa (Hev.o y hym);have Hrd:Hid (Xw x y=Eo (Bn x.1 x.2) (Bn y.1 y.2)):=rfl;generalize Eo (Bn x.1 x.2) (Bn y.1 y.2)=r at Hcall Hrd;clear hym e1;go_wp2_with fail;refine(Hcall.o _).mono ?_;rintro e w9 ⟨rfl,hb9⟩;have Hb9:=@Aa (Below wr wr w9) (((Ar _ _).alloc (Am _) _).trans (hb9.mono aH));have Hbz:=Aa (hb'.out.trans (Hb9.o.mono hb'.out.size));have Hbv:=Aa (Hbk.o.trans (Hb9.o.mono Hbk.o.size));clear hb9 y0 y1 z0 z1;cases r with
       |false=>
        have Hno:=Aa (T7 hlt (Nat.le_of_lt hkl) (by rw[Hxv.o,Hyv.o];exact Hrd.o));go_wp2_with fail;go_ret;exact⟨by rw[Hno.o];rfl,Hbv.o⟩
       |true=>
        have Hall:=Aa (show ∀k',k'<k+1->Xw (Dq vs i) (Dq vs k')=true from fun k' hk'=>by
         rcases aE k' k with h|h
         ·exact hkin.o k' h
         obtain rfl:k'=k:=aF;rw[Hxv.o,Hyv.o];exact Hrd.o)
        go_wp2_with fail;go_roundw
        case rel=>exact⟨k+1,by go_num,by omega,Hall.o,Hbz.o⟩
        case measure=>simp[intOf];omega
      ·have k2:¬(k:Int)<(i:Int):=aF
       have Hall:=Aa (show ∀i',i'<i+1->∀k',k'<=i'->Xw (Dq vs i') (Dq vs k')=true from fun i' hi' k' hk'=>by
        rcases aE i' i with h|h
        ·exact hin.o i' h k' hk'
        obtain rfl:i'=i:=aF;rcases aE k' i' with h2|h2
        ·exact hkin.o k' aF
        obtain rfl:k'=i':=aF;rw[Hxv.o];exact Hs.o)
       have d0:=Aa ((hb'.out.cell (p:=⟨w.heap.size,0,none⟩) (show w.heap.size<W5.heap.size by omega)).trans D0.o);clear z0 z1;go_wp2_with fail;go_roundw
       case rel=>exact⟨i+1,by go_num,by omega,Hall.o,Hbk.o,by have:=hb'.out.size;omega,d0.o⟩
       case measure=>simp[intOf];omega
   ·obtain rfl:i=vs.length:=aF;have Hfin:=Aa (J1.2 ⟨H5.o,hin.o⟩);go_wp2_with fail;go_ret;exact⟨by rw[Hfin.o];rfl,hb.o⟩
 have h5i:(5:Int)<(vs.length:Int):=aF;have Hno:=@Aa (Ms vs=false) (by rw[Bool.eq_false_iff];exact fun h=>h5 (J1.1 h).1);go_wp2_with fail;go_ret;exact⟨by rw[Hno.o];rfl,(Ar _ _).alloc (Am _) _⟩
inductive Vl where
 |mk (what:UInt8) (text:List UInt8) (tag:Nat) (kids:List Vl)
def Vl.what:Vl->UInt8|.mk w _ _ _=>w
def Vl.text:Vl->List UInt8|.mk _ t _ _=>t
def Vl.tag:Vl->Nat|.mk _ _ g _=>g
def Vl.kids:Vl->List Vl|.mk _ _ _ k=>k
def H9(w:UInt8)(tx:List UInt8)(tg:Nat)(ps:List (List UInt8)):List UInt8:=
 if w=116 then 39::(tx++[39])
 else if w=91 then 91::(As 44 ps++[93])
 else if w=63 then(match ps with|[]=>[45]|_=>43::As 44 ps)
 else if w=61 then Au tg++61::As 44 ps
 else if w=82 then 123::(As 44 ps++[125])
 else if w=85 then 60::(Au tg++61::(As 44 ps++[62]))
 else if w=69 then 35::Au tg
 else tx
mutual
def Bi:Vl->List UInt8
 |.mk w tx tg ks=>H9 w tx tg (D7 ks)
def D7:List Vl->List (List UInt8)
 |[]=>[]
 |x::xs=>Bi x::D7 xs
end
theorem Q8:∀ks:List Vl,D7 ks=ks.map Bi
 |[]=>rfl
 |x::xs=>by rw[D7,Q8 xs];rfl
mutual
def Kq:Vl->Nat
 |.mk w _ _ ks=>if w=61 then Gp ks else Gp ks+1
def Gp:List Vl->Nat
 |[]=>0
 |x::xs=>max (Kq x) (Gp xs)
end
theorem Tg:∀(ks:List Vl) (d:Nat),Gp ks<=d↔∀x∈ks,Kq x<=d
 |[],d=>by simp[Gp]
 |x::xs,d=>by rw[Gp,Nat.max_le,Tg xs d];simp
def Dy:List UInt8:=[121,101,115]
def Kh:List UInt8:=[110,111]
def Ee(p:Fd × Vl):Vl:=.mk 61 [] p.1.tag [p.2]
inductive Nm(S:List Ty):Nat->Kd->Vl->Prop
 |n {d:Nat} {k:Kd} {m:Nat} (hs:k.signs=[]) (hb:k.base=[110]) (h:m<=999999):Nm S (d+1) k (.mk 110 (Au m) 0 [])
 |t {d:Nat} {k:Kd} {s:List UInt8} (hs:k.signs=[]) (hb:k.base=[116]) (h:Dk s=true):Nm S (d+1) k (.mk 116 s 0 [])
 |f {d:Nat} {k:Kd} {b:Bool} (hs:k.signs=[]) (hb:k.base=[102]):Nm S (d+1) k (.mk 102 (if b then Dy else Kh) 0 [])
 |lst {d:Nat} {k:Kd} {r:List UInt8} {ks:List Vl} (hs:k.signs=91::r) (hl:ks.length<=20) (h:∀x∈ks,Nm S d k.part x):Nm S (d+1) k (.mk 91 [] 0 ks)
 |non {d:Nat} {k:Kd} {r:List UInt8} (hs:k.signs=63::r):Nm S (d+1) k (.mk 63 [] 0 [])
 |som {d:Nat} {k:Kd} {r:List UInt8} {x:Vl} (hs:k.signs=63::r) (h:Nm S d k.part x):Nm S (d+1) k (.mk 63 [] 0 [x])
 |enm {d:Nat} {k:Kd} {t:Ty} {f:Fd} (hs:k.signs=[]) (hb:k.base=[64]) (ht:Bu S k.name=some t) (h9:t.sort=69) (hf:Bl t.fields f.tag=some f):Nm S (d+1) k (.mk 69 [] f.tag [])
 |uni {d:Nat} {k:Kd} {t:Ty} {f:Fd} {x:Vl} (hs:k.signs=[]) (hb:k.base=[64]) (ht:Bu S k.name=some t) (h5:t.sort=85) (hf:Bl t.fields f.tag=some f) (h:Nm S d f.kind x):Nm S (d+1) k (.mk 85 [] f.tag [x])
 |rcd {d:Nat} {k:Kd} {t:Ty} {fs:List (Fd × Vl)} (hs:k.signs=[]) (hb:k.base=[64]) (ht:Bu S k.name=some t) (h2:t.sort=82) (hf:∀p∈fs,Bl t.fields p.1.tag=some p.1) (h:∀p∈fs,Nm S d p.1.kind p.2)
   (hn:∀p∈fs,Bi p.2≠M6 S p.1) (hp:fs.Pairwise fun p q=>p.1.tag<q.1.tag):Nm S (d+1) k (.mk 82 [] 0 (fs.map Ee))
theorem Qgp(p:Fd × Vl):Kq (Ee p)=Kq p.2:=by simp[Ee,Kq,Gp]
theorem Gq(S:List Ty):∀(n:Nat) (k:Kd) (v:Vl),Nm S n k v->∀d,Nm S d k v↔Kq v<=d:=by
 intro n;induction n with
 |zero=>intro k v h;cases h
 |succ n ih=>
  intro k v h d;cases d with
  |zero=>
   constructor
   ·intro h;cases h
   intro hd;cases h<;>simp[Kq]at hd
  |succ d=>
   cases h with
   |n hs hb h=>exact⟨fun _=>by simp[Kq,Gp],fun _=>.n hs hb h⟩
   |t hs hb h=>exact⟨fun _=>by simp[Kq,Gp],fun _=>.t hs hb h⟩
   |f hs hb=>exact⟨fun _=>by simp[Kq,Gp],fun _=>.f hs hb⟩
   |non hs=>exact⟨fun _=>by simp[Kq,Gp],fun _=>.non hs⟩
   |enm hs hb ht h9 hf=>exact⟨fun _=>by simp[Kq,Gp],fun _=>.enm hs hb ht h9 hf⟩
   |@lst _ _ r ks hs hl h=>
    have e:Kq (.mk 91 [] 0 ks)<=d+1↔∀x∈ks,Kq x<=d:=by rw[<-Tg];simp[Kq]
    rw[e];constructor
    ·intro hv x hx;cases hv with
     |lst _ _ h2=>exact(ih _ _ (h x hx) d).1 (h2 x hx)
    intro hv;exact .lst hs hl fun x hx=>(ih _ _ (h x hx) d).2 (hv x hx)
   |@som _ _ r x hs h=>
    have e:Kq (.mk 63 [] 0 [x])<=d+1↔Kq x<=d:=by simp[Kq,Gp]
    rw[e];constructor
    ·intro hv;cases hv with
     |som _ h2=>exact(ih _ _ h d).1 h2
    intro hv;exact .som hs ((ih _ _ h d).2 hv)
   |@uni _ _ t f x hs hb ht h5 hf h=>
    have e:Kq (.mk 85 [] f.tag [x])<=d+1↔Kq x<=d:=by simp[Kq,Gp]
    rw[e];constructor
    ·intro hv;generalize hg:f.tag=g at hv;cases hv with
     |uni hs2 hb2 ht2 h52 hf2 h2=>
      rw[ht]at ht2;injection ht2 with ht2;subst ht2;rw[<-hg,hf]at hf2;injection hf2 with hf2;subst hf2;exact(ih _ _ h d).1 h2
    intro hv;exact .uni hs hb ht h5 hf ((ih _ _ h d).2 hv)
   |@rcd _ _ t fs hs hb ht h2 hf h hn hp=>
    have e:Kq (.mk 82 [] 0 (fs.map Ee))<=d+1↔∀p∈fs,Kq p.2<=d:=by
     have:Kq (.mk 82 [] 0 (fs.map Ee))=Gp (fs.map Ee)+1:=by simp[Kq]
     rw[this,Nat.succ_le_succ_iff,Tg];constructor
     ·intro h p hp;have:=h _ (am hp);rwa [Qgp]at this
     intro h x hx;obtain⟨p,hp,rfl⟩:=av.1 hx;rw[Qgp];exact h p hp
    rw[e];constructor
    ·intro hv p hp;generalize hg:fs.map Ee=ks at hv;cases hv with
     |@rcd _ _ t2 fs2 hs2 hb2 ht2 h22 hf2 h2 hn2 hp2=>
      rw[ht]at ht2;injection ht2 with ht2;subst ht2;have hm:Ee p∈fs2.map Ee:=hg ▸ am hp;obtain⟨q,hq,eq⟩:=av.1 hm;have e1:q.1.tag=p.1.tag:=by injection eq
      have e2:q.2=p.2:=by injection eq with _ _ _ e4;injection e4
      have e3:q.1=p.1:=by have:=hf2 q hq;rw[e1,hf p hp]at this;injection this with this;exact this.symm
      have:=h2 q hq;rw[e2,e3]at this;exact(ih _ _ (h p hp) d).1 this
    intro hv;exact .rcd hs hb ht h2 hf (fun p hp=>(ih _ _ (h p hp) d).2 (hv p hp)) hn hp
def Qa(s:List UInt8):Option (Nat × List UInt8):=match Cg (s.takeWhile Az)with
 |some n=>some (n,s.dropWhile Az)
 |none=>none
def Fo(fs:List Fd)(s:List UInt8):Option (Fd × List UInt8):=match Qa s with
 |some (n,r)=>if n<=200 then(match Bl fs n with|some f=>some (f,r)|none=>none)else none
 |none=>none
def Aq(c:UInt8):List UInt8->Option (List UInt8)
 |x::r=>if x=c then some r else none
 |[]=>none
def Mp(s:List UInt8):Option (List UInt8 × List UInt8):=match Aq 39 s with
 |none=>none
 |some r=>match Aq 39 (r.dropWhile B0)with
  |none=>none
  |some q=>if (r.takeWhile B0).length<=12 then some (r.takeWhile B0,q)else none
def Fa:List UInt8->List UInt8->Option (List UInt8)
 |[],s=>some s
 |c::p,s=>match Aq c s with|none=>none|some r=>Fa p r
def Pc(s:List UInt8):Option (Bool × List UInt8):=match Fa Dy s with
 |some r=>some (true,r)
 |none=>match Fa Kh s with|some r=>some (false,r)|none=>none
def Cq(K:List UInt8->Option (Vl × List UInt8)):Nat->List UInt8->Option (List Vl × List UInt8)
 |0,_=>none
 |m+1,s=>match K s with
  |none=>none
  |some (v,r)=>match Aq 44 r with
   |some q=>(match Cq K m q with|some (vs,z)=>some (v::vs,z)|none=>none)
   |none=>match Aq 93 r with|some q=>some ([v],q)|none=>none
def S6(K:List UInt8->Option (Vl × List UInt8))(m:Nat)(s:List UInt8):Option (Vl × List UInt8):=match Aq 91 s with
 |none=>none
 |some r=>match Aq 93 r with
  |some q=>some (.mk 91 [] 0 [],q)
  |none=>match Cq K m r with|some (vs,q)=>if vs.length<=20 then some (.mk 91 [] 0 vs,q)else none|none=>none
def Qbw(K:List UInt8->Option (Vl × List UInt8))(s:List UInt8):Option (Vl × List UInt8):=match Aq 45 s with
 |some q=>some (.mk 63 [] 0 [],q)
 |none=>match Aq 43 s with
  |none=>none
  |some r=>match K r with|some (v,q)=>some (.mk 63 [] 0 [v],q)|none=>none
def Cu(K:Kd->List UInt8->Option (Vl × List UInt8))(fs:List Fd)(s:List UInt8):Option ((Fd × Vl) × List UInt8):=match Fo fs s with
 |none=>none
 |some (f,r)=>match Aq 61 r with
  |none=>none
  |some q=>match K f.kind q with|some (v,z)=>some ((f,v),z)|none=>none
def Dz(S:List Ty)(K:Kd->List UInt8->Option (Vl × List UInt8))(fs:List Fd):Nat->Nat->List UInt8->Option (List (Fd × Vl) × List UInt8)
 |0,_,_=>none
 |m+1,last,s=>match Cu K fs s with
  |none=>none
  |some (p,r)=>if p.1.tag<=last\/Bi p.2=M6 S p.1 then none else match Aq 44 r with
   |some q=>(match Dz S K fs m p.1.tag q with|some (ps,z)=>some (p::ps,z)|none=>none)
   |none=>match Aq 125 r with|some q=>some ([p],q)|none=>none
def Jq(S:List Ty)(K:Kd->List UInt8->Option (Vl × List UInt8))(t:Ty)(s:List UInt8):Option (Vl × List UInt8):=
 if t.sort=69 then(match Aq 35 s with
  |none=>none
  |some r=>match Fo t.fields r with|some (f,q)=>some (.mk 69 [] f.tag [],q)|none=>none)
 else if t.sort=85 then(match Aq 60 s with
  |none=>none
  |some r=>match Cu K t.fields r with
   |none=>none
   |some (p,q)=>match Aq 62 q with|some z=>some (.mk 85 [] p.1.tag [p.2],z)|none=>none)
 else match Aq 123 s with
  |none=>none
  |some r=>match Aq 125 r with
   |some q=>some (.mk 82 [] 0 [],q)
   |none=>match Dz S K t.fields 201 0 r with|some (ps,q)=>some (.mk 82 [] 0 (ps.map Ee),q)|none=>none
def Al(S:List Ty)(m:Nat):Nat->Kd->List UInt8->Option (Vl × List UInt8)
 |0,_,_=>none
 |d+1,k,s=>match k.signs with
  |c::_=>if c=91 then S6 (Al S m d k.part) m s else Qbw (Al S m d k.part) s
  |[]=>
   if k.base=[110]then(match Qa s with|some (n,r)=>some (.mk 110 (Au n) 0 [],r)|none=>none)
   else if k.base=[116]then(match Mp s with|some (x,r)=>some (.mk 116 x 0 [],r)|none=>none)
   else if k.base=[102]then(match Pc s with|some (b,r)=>some (.mk 102 (if b then Dy else Kh) 0 [],r)|none=>none)
   else match Bu S k.name with
    |none=>none
    |some t=>Jq S (Al S m d) t s
theorem Ce{c:UInt8}{s r:List UInt8}:Aq c s=some r↔s=c::r:=by
 cases s with
 |nil=>simp[Aq]
 |cons x t=>
  by_cases h:x=c
  ·subst h;simp[Aq]
  simp[Aq,h]
theorem Bc(c:UInt8)(r:List UInt8):Aq c (c::r)=some r:=if_pos rfl
theorem C5{c x:UInt8}(h:x≠c)(r:List UInt8):Aq c (x::r)=none:=if_neg h
theorem Fl{p s r:List UInt8}:Fa p s=some r↔s=p++r:=by
 induction p generalizing s with
 |nil=>simp[Fa]
 |cons c p ih=>
  unfold Fa;cases h:Aq c s with
  |none=>
   simp only[false_iff,reduceCtorEq];intro e;subst e;rw[ar,Bc]at h;cases h
  |some q=>rw[Ce]at h;subst h;simp[ih]
def Pt(r:List UInt8):Prop:=∀c t,r=c::t->Az c=false
theorem Mx:Pt []:=by intro c t h;cases h
theorem H8{c:UInt8}(r:List UInt8)(h:Az c=false):Pt (c::r):=by intro x t e;injection e with e;subst e;exact h
theorem Qfb{a r:List UInt8}(ha:a.all Az=true)(hr:Pt r):(a++r).takeWhile Az=a/\(a++r).dropWhile Az=r:=by
 cases r with
 |nil=>
  rw[List.append_nil];induction a with
  |nil=>exact⟨rfl,rfl⟩
  |cons c a ih=>
   rw[List.all_cons,au]at ha;obtain⟨i1,i2⟩:=ih ha.2;rw[List.takeWhile_cons_of_pos ha.1,List.dropWhile_cons_of_pos ha.1,i1,i2];exact hH
 |cons c t=>exact E0 ha ⟨c,t,rfl,hr c t rfl⟩
theorem Yc{s r:List UInt8}{n:Nat}(h:Qa s=some (n,r)):n<=999999/\s=Au n++r/\Pt r:=by
 unfold Qa at h;cases hd:Cg (s.takeWhile Az)with
 |none=>rw[hd]at h;cases h
 |some m=>
  rw[hd]at h;simp only[ah,aC]at h;obtain⟨rfl,rfl⟩:=h;obtain⟨h1,h2⟩:=Br.1 hd;refine⟨h1,by rw[<-h2,List.takeWhile_append_dropWhile],fun c t e=>?_⟩;have:=List.head?_dropWhile_not Az s;rw[e]at this;simpa using this
theorem Qa5{n:Nat}{r:List UInt8}(h:n<=999999)(hr:Pt r):Qa (Au n++r)=some (n,r):=by
 obtain⟨e1,e2⟩:=Qfb (Np n) hr;unfold Qa;rw[e1,e2,Br.2 ⟨h,rfl⟩]
theorem Ci{fs:List Fd}{n:Nat}{f:Fd}(h:Bl fs n=some f):f.tag=n/\f∈fs:=by
 unfold Bl at h;have:=List.find?_some h;exact⟨by simpa using this,List.mem_of_find?_eq_some h⟩
theorem G9{fs:List Fd}{s r:List UInt8}{f:Fd}(h:Fo fs s=some (f,r)):f.tag<=200/\Bl fs f.tag=some f/\s=Au f.tag++r/\Pt r:=by
 unfold Fo at h;cases hn:Qa s with
 |none=>rw[hn]at h;cases h
 |some q=>
  obtain⟨n,z⟩:=q;rw[hn]at h;simp only at h;split at h
  ·rename_i h2;cases hf:Bl fs n with
   |none=>rw[hf]at h;cases h
   |some g=>
    rw[hf]at h;simp only[ah,aC]at h;obtain⟨rfl,rfl⟩:=h;have e:=(Ci hf).1;obtain⟨_,e2,e3⟩:=Yc hn;rw[e];exact⟨h2,hf,e2,e3⟩
  cases h
theorem Qcd{fs:List Fd}{f:Fd}{r:List UInt8}(h:f.tag<=200)(hf:Bl fs f.tag=some f)(hr:Pt r):Fo fs (Au f.tag++r)=some (f,r):=by
 unfold Fo;rw[Qa5 aF hr];simp[h,hf]
theorem Qcc:B0 39=false:=aI
theorem Yo{s b r:List UInt8}:Mp s=some (b,r)↔Dk b=true/\s=39::(b++39::r):=by
 unfold Mp;cases h:Aq 39 s with
 |none=>
  simp only[reduceCtorEq,false_iff,not_and];rintro _ rfl;rw[Bc]at h;cases h
 |some q=>
  rw[Ce]at h;subst h;simp only[List.cons.injEq,true_and];cases h:Aq 39 (q.dropWhile B0)with
  |none=>
   simp only[reduceCtorEq,false_iff,not_and];rintro hb rfl;have hb2:b.all B0=true:=by unfold Dk at hb;simp only[au]at hb;exact hb.2
   rw[(E0 hb2 ⟨39,r,rfl,Qcc⟩).2,Bc]at h;cases h
  |some z=>
   rw[Ce]at h;have eq:q=q.takeWhile B0++39::z:=by rw[<-h,List.takeWhile_append_dropWhile]
   simp only;constructor
   ·intro h2;split at h2
    ·rename_i hl;simp only[ah,aC]at h2;obtain⟨rfl,rfl⟩:=h2;exact⟨by unfold Dk;simp only[au];exact⟨by simpa using hl,Jk q⟩,eq⟩
    cases h2
   rintro⟨hb,rfl⟩;unfold Dk at hb;simp only[au,decide_eq_true_eq]at hb;obtain⟨e1,e2⟩:=E0 hb.2 ⟨39,r,rfl,Qcc⟩;rw[e2]at h;injection h with _ h;subst h;rw[e1,if_pos hb.1]
theorem Vz{s r:List UInt8}{b:Bool}:Pc s=some (b,r)↔s=(if b then Dy else Kh)++r:=by
 unfold Pc;cases h:Fa Dy s with
 |some q=>
  rw[Fl]at h;subst h;cases b<;>simp[Dy,Kh]
 |none=>
  simp only;cases h2:Fa Kh s with
  |some q=>
   rw[Fl]at h2;subst h2;cases b<;>simp[Dy,Kh]
  |none=>
   simp only[reduceCtorEq,false_iff];rintro rfl;cases b
   ·rw[show Fa Kh ((if false=true then Dy else Kh)++r)=some r from Fl.2 rfl]at h2;cases h2
   rw[show Fa Dy ((if true=true then Dy else Kh)++r)=some r from Fl.2 rfl]at h;cases h
theorem Qa4{K:List UInt8->Option (Vl × List UInt8)}{P:Vl->Prop}(hK:∀s v r,K s=some (v,r)->P v/\s=Bi v++r):∀(m:Nat) (s:List UInt8) (vs:List Vl) (r:List UInt8),
  Cq K m s=some (vs,r)->vs≠[]/\vs.length<=m/\(∀x∈vs,P x)/\s=As 44 (vs.map Bi)++93::r:=by
 intro m;induction m with
 |zero=>intro s vs r h;cases h
 |succ m ih=>
  intro s vs r h;unfold Cq at h;cases hk:K s with
  |none=>rw[hk]at h;cases h
  |some q=>
   obtain⟨v,z⟩:=q;rw[hk]at h;simp only at h;obtain⟨hp,rfl⟩:=hK _ _ _ hk;cases hb:Aq 44 z with
   |some q=>
    rw[hb]at h;simp only at h;cases hi:Cq K m q with
    |none=>rw[hi]at h;cases h
    |some y=>
     obtain⟨us,y⟩:=y;rw[hi]at h;simp only[ah,aC]at h;obtain⟨rfl,rfl⟩:=h;obtain⟨h1,h2,h3,h4⟩:=ih _ _ _ hi;rw[Ce]at hb;subst hb;refine⟨by simp,by simp;omega,by simpa using⟨hp,h3⟩,?_⟩;rw[aw,Cx 44 _ dQ,h4];simp
   |none=>
    rw[hb]at h;simp only at h;cases hb:Aq 93 z with
    |none=>rw[hb]at h;cases h
    |some q=>
     rw[hb]at h;simp only[ah,aC]at h;obtain⟨rfl,rfl⟩:=h;rw[Ce]at hb;subst hb;exact⟨by simp,by simp,by simpa using hp,by simp[As]⟩
theorem Sp{K:List UInt8->Option (Vl × List UInt8)}:∀(m:Nat) (vs:List Vl) (r:List UInt8),(∀x∈vs,∀r,Pt r->K (Bi x++r)=some (x,r))->vs≠[]->vs.length<=m ->
  Cq K m (As 44 (vs.map Bi)++93::r)=some (vs,r)
 |0,vs,r,_,h,hl=>by cases vs with|nil=>exact absurd rfl h|cons=>simp at hl
 |m+1,[],r,_,h,_=>absurd rfl h
 |m+1,[x],r,hK,_,_=>by
  have e:=hK x aH (93::r) (H8 _ aI);simp only[aw,List.map_nil,As];unfold Cq;rw[e];simp only[C5 (show (93:UInt8)≠44 by decide),Bc]
 |m+1,x::y::vs,r,hK,_,hl=>by
  have ih:=Sp m (y::vs) r (fun z hz=>hK z dW) aH eL;have e:=hK x aH (44::(As 44 ((y::vs).map Bi)++93::r)) (H8 _ aI);rw[aw,Cx 44 _ aH,List.append_assoc,ar];unfold Cq;rw[e];simp only[Bc,ih]
theorem P5{K:Kd->List UInt8->Option (Vl × List UInt8)}{P:Fd->Vl->Prop}{fs:List Fd}(hK:∀f∈fs,∀s v r,K f.kind s=some (v,r)->P f v/\s=Bi v++r){s r:List UInt8}{p:Fd × Vl}
  (h:Cu K fs s=some (p,r)):p.1.tag<=200/\Bl fs p.1.tag=some p.1/\P p.1 p.2/\s=Bi (Ee p)++r:=by
 unfold Cu at h;cases ht:Fo fs s with
 |none=>rw[ht]at h;cases h
 |some q=>
  obtain⟨f,z⟩:=q;rw[ht]at h;simp only at h;obtain⟨h1,h2,rfl,_⟩:=G9 ht;cases hb:Aq 61 z with
  |none=>rw[hb]at h;cases h
  |some q=>
   rw[hb]at h;simp only at h;rw[Ce]at hb;subst hb;cases hk:K f.kind q with
   |none=>rw[hk]at h;cases h
   |some y=>
    obtain⟨v,y⟩:=y;rw[hk]at h;simp only[ah,aC]at h;obtain⟨rfl,rfl⟩:=h;obtain⟨h3,rfl⟩:=hK f (Ci h2).2 _ _ _ hk;exact⟨h1,h2,h3,by simp[Ee,Bi,D7,H9,As]⟩
theorem P4{K:Kd->List UInt8->Option (Vl × List UInt8)}{fs:List Fd}{p:Fd × Vl}{r:List UInt8}(h1:p.1.tag<=200)(h2:Bl fs p.1.tag=some p.1)(hK:K p.1.kind (Bi p.2++r)=some (p.2,r)):
  Cu K fs (Bi (Ee p)++r)=some (p,r):=by
 have e:Bi (Ee p)++r=Au p.1.tag++(61::(Bi p.2++r)):=by simp[Ee,Bi,D7,H9,As]
 rw[e];unfold Cu;rw[Qcd h1 h2 (H8 _ aI)];simp only[Bc,hK]
theorem Qdl{S:List Ty}{K:Kd->List UInt8->Option (Vl × List UInt8)}{P:Fd->Vl->Prop}{fs:List Fd}(hK:∀f∈fs,∀s v r,K f.kind s=some (v,r)->P f v/\s=Bi v++r):∀(m last:Nat) (s:List UInt8) (ps:List (Fd × Vl)) (r:List UInt8),
  Dz S K fs m last s=some (ps,r)->ps≠[]/\(∀p∈ps,last<p.1.tag/\Bl fs p.1.tag=some p.1/\P p.1 p.2/\Bi p.2≠M6 S p.1)/\(ps.Pairwise fun p q=>p.1.tag<q.1.tag)/\s=As 44 (ps.map fun p=>Bi (Ee p))++125::r:=by
 intro m;induction m with
 |zero=>intro last s ps r h;cases h
 |succ m ih=>
  intro last s ps r h;unfold Dz at h;cases hk:Cu K fs s with
  |none=>rw[hk]at h;cases h
  |some q=>
   obtain⟨p,z⟩:=q;rw[hk]at h;simp only at h;obtain⟨h1,h2,h3,rfl⟩:=P5 hK hk;split at h
   ·cases h
   rename_i hno;have hno1:last<p.1.tag:=aF;have hno2:Bi p.2≠M6 S p.1:=fun e=>hno (.inr e);cases hb:Aq 44 z with
   |some q=>
    rw[hb]at h;simp only at h;cases hi:Dz S K fs m p.1.tag q with
    |none=>rw[hi]at h;cases h
    |some y=>
     obtain⟨us,y⟩:=y;rw[hi]at h;simp only[ah,aC]at h;obtain⟨rfl,rfl⟩:=h;obtain⟨i1,i2,i3,i4⟩:=ih _ _ _ _ hi;rw[Ce]at hb;subst hb;refine⟨by simp,?_,?_,?_⟩
     ·intro x hx;rcases ay.1 hx with rfl|hx
      ·exact⟨hno1,h2,h3,hno2⟩
      obtain⟨j1,j2⟩:=i2 x hx;exact⟨by omega,j2⟩
     ·exact List.pairwise_cons.2 ⟨fun x hx=>(i2 x hx).1,i3⟩
     rw[aw,Cx 44 _ (by simpa using i1),i4];simp
   |none=>
    rw[hb]at h;simp only at h;cases hb:Aq 125 z with
    |none=>rw[hb]at h;cases h
    |some q=>
     rw[hb]at h;simp only[ah,aC]at h;obtain⟨rfl,rfl⟩:=h;rw[Ce]at hb;subst hb;refine⟨by simp,?_,by simp,by simp[As]⟩;intro x hx;rw[an]at hx;subst hx;exact⟨hno1,h2,h3,hno2⟩
theorem Tv{S:List Ty}{K:Kd->List UInt8->Option (Vl × List UInt8)}{fs:List Fd}:∀(m last:Nat) (ps:List (Fd × Vl)) (r:List UInt8),
  (∀p∈ps,∀r,Pt r->K p.1.kind (Bi p.2++r)=some (p.2,r))->ps≠[]->(∀p∈ps,last<p.1.tag/\p.1.tag<=200/\Bl fs p.1.tag=some p.1/\Bi p.2≠M6 S p.1)->(ps.Pairwise fun p q=>p.1.tag<q.1.tag)->201<=m+last ->
  Dz S K fs m last (As 44 (ps.map fun p=>Bi (Ee p))++125::r)=some (ps,r)
 |0,last,[],r,_,h,_,_,_=>absurd rfl h
 |0,last,p::ps,r,_,_,hp,_,hl=>by have:=hp p aH;omega
 |m+1,last,[],r,_,h,_,_,_=>absurd rfl h
 |m+1,last,[p],r,hK,_,hp,_,hl=>by
  obtain⟨h1,h2,h3,h4⟩:=hp p aH;have e:=P4 h2 h3 (hK p aH (125::r) (H8 _ aI));simp only[aw,List.map_nil,As];unfold Dz;rw[e];simp only;rw[if_neg cx];simp only[C5 (show (125:UInt8)≠44 by decide),Bc]
 |m+1,last,p::q::ps,r,hK,_,hp,hw,hl=>by
  obtain⟨h1,h2,h3,h4⟩:=hp p aH;obtain⟨w1,w2⟩:=List.pairwise_cons.1 hw;have ih:=Tv m p.1.tag (q::ps) r (fun z hz=>hK z dW) aH (fun z hz=>⟨w1 z hz,(hp z dW).2⟩) w2 aF;have e:=P4 (K:=K) h2 h3 (hK p aH (44::(As 44 ((q::ps).map fun p=>Bi (Ee p))++125::r)) (H8 _ aI));rw[aw,Cx 44 _ aH,List.append_assoc,ar];unfold Dz;rw[e];simp only;rw[if_neg cx];simp only[Bc,ih]
theorem Qa0{k:Kd}(h:Cs k){c:UInt8}{t:List UInt8}(hs:k.signs=c::t):c=91\/c=63:=by
 have:=h.1;rw[hs]at this;simp only[List.all_cons,au,Bm,Bool.or_eq_true,beq_iff_eq]at this;exact this.1
theorem Sj{S:List Ty}(hS:∀t∈S,En t){n:List UInt8}{t:Ty}(ht:Bu S n=some t)(h9:t.sort≠69){f:Fd}(hf:f∈t.fields):Cs f.kind/\f.tag<=200:=by
 have h:=(hS t (Ch ht).1).2.2.1.1 f hf;exact⟨(h.2.2.2.2 h9).1,h.2.1⟩
theorem Qo(fs:List (Fd × Vl)):Bi (.mk 82 [] 0 (fs.map Ee))=123::(As 44 (fs.map fun p=>Bi (Ee p))++[125]):=by
 simp[Bi,Q8,H9];rfl
theorem Ji(ks:List Vl):Bi (.mk 91 [] 0 ks)=91::(As 44 (ks.map Bi)++[93]):=by simp[Bi,Q8,H9]
theorem Tf(f:Fd)(x:Vl):Bi (.mk 85 [] f.tag [x])=60::(Bi (Ee (f,x))++[62]):=by simp[Bi,D7,H9,Ee,As]
theorem Fp{S:List Ty}(hS:∀t∈S,En t)(m:Nat):∀(d:Nat) (k:Kd) (s:List UInt8) (v:Vl) (r:List UInt8),Cs k->Al S m d k s=some (v,r)->Nm S d k v/\s=Bi v++r:=by
 intro d;induction d with
 |zero=>intro k s v r _ h;cases h
 |succ d ih=>
  intro k s v r hk h;unfold Al at h;cases hs:k.signs with
  |cons c t=>
   rw[hs]at h;simp only at h;have hp:=(M8 hk).1;by_cases h91:c=91
   ·subst h91;rw[if_pos rfl]at h;unfold S6 at h;cases hb:Aq 91 s with
    |none=>rw[hb]at h;cases h
    |some q=>
     rw[hb]at h;simp only at h;rw[Ce]at hb;subst hb;cases hb:Aq 93 q with
     |some z=>
      rw[hb]at h;simp only[ah,aC]at h;obtain⟨rfl,rfl⟩:=h;rw[Ce]at hb;subst hb;exact⟨.lst hs aH aH,by rw[Ji];rfl⟩
     |none=>
      rw[hb]at h;simp only at h;cases hi:Cq (Al S m d k.part) m q with
      |none=>rw[hi]at h;cases h
      |some y=>
       obtain⟨us,y⟩:=y;rw[hi]at h;simp only at h;split at h
       ·rename_i hl;simp only[ah,aC]at h;obtain⟨rfl,rfl⟩:=h;obtain⟨_,_,i3,i4⟩:=Qa4 (P:=Nm S d k.part) (fun s v r h=>ih _ _ _ _ hp h) _ _ _ _ hi;exact⟨.lst hs hl i3,by rw[Ji,i4];simp⟩
       cases h
   have h63:=(Qa0 hk hs).resolve_left h91;subst h63;rw[if_neg h91]at h;unfold Qbw at h;cases hb:Aq 45 s with
   |some q=>
    rw[hb]at h;simp only[ah,aC]at h;obtain⟨rfl,rfl⟩:=h;rw[Ce]at hb;subst hb;exact⟨.non hs,rfl⟩
   |none=>
    rw[hb]at h;simp only at h;cases hb:Aq 43 s with
    |none=>rw[hb]at h;cases h
    |some q=>
     rw[hb]at h;simp only at h;rw[Ce]at hb;subst hb;cases hi:Al S m d k.part q with
     |none=>rw[hi]at h;cases h
     |some y=>
      obtain⟨x,y⟩:=y;rw[hi]at h;simp only[ah,aC]at h;obtain⟨rfl,rfl⟩:=h;obtain⟨i1,rfl⟩:=ih _ _ _ _ hp hi;exact⟨.som hs i1,by simp[Bi,D7,H9,As]⟩
  |nil=>
   rw[hs]at h;simp only at h;split at h
   ·rename_i hb;cases hn:Qa s with
    |none=>rw[hn]at h;cases h
    |some q=>
     obtain⟨n,q⟩:=q;rw[hn]at h;simp only[ah,aC]at h;obtain⟨rfl,rfl⟩:=h;obtain⟨h1,h2,_⟩:=Yc hn;exact⟨.n hs hb h1,by rw[h2];simp[Bi,D7,H9]⟩
   split at h
   ·rename_i hb;cases hn:Mp s with
    |none=>rw[hn]at h;cases h
    |some q=>
     obtain⟨x,q⟩:=q;rw[hn]at h;simp only[ah,aC]at h;obtain⟨rfl,rfl⟩:=h;obtain⟨h1,rfl⟩:=Yo.1 hn;exact⟨.t hs hb h1,by simp[Bi,D7,H9]⟩
   split at h
   ·rename_i hb;cases hn:Pc s with
    |none=>rw[hn]at h;cases h
    |some q=>
     obtain⟨x,q⟩:=q;rw[hn]at h;simp only[ah,aC]at h;obtain⟨rfl,rfl⟩:=h;have:=Vz.1 hn;exact⟨.f hs hb,by rw[this];simp[Bi,D7,H9]⟩
   rename_i b1 b2 b3;have hb:k.base=[64]:=by
    rcases hk.2.1 with h|⟨h|h|h,_⟩
    ·exact h.1
    ·exact absurd h b1
    ·exact absurd h b2
    exact absurd h b3
   cases ht:Bu S k.name with
   |none=>rw[ht]at h;cases h
   |some t=>
    rw[ht]at h;simp only at h;unfold Jq at h;by_cases h9:t.sort=69
    ·rw[if_pos h9]at h;cases hb3:Aq 35 s with
     |none=>rw[hb3]at h;cases h
     |some q=>
      rw[hb3]at h;simp only at h;rw[Ce]at hb3;subst hb3;cases hg:Fo t.fields q with
      |none=>rw[hg]at h;cases h
      |some y=>
       obtain⟨f,y⟩:=y;rw[hg]at h;simp only[ah,aC]at h;obtain⟨rfl,rfl⟩:=h;obtain⟨_,h2,h3,_⟩:=G9 hg;exact⟨.enm hs hb ht h9 h2,by rw[h3];simp[Bi,D7,H9]⟩
    rw[if_neg h9]at h;have hK:∀f∈t.fields,∀s v r,Al S m d f.kind s=some (v,r)->Nm S d f.kind v/\s=Bi v++r:=fun f hf s v r hr=>ih _ _ _ _ (Sj hS ht h9 hf).1 hr;by_cases h5:t.sort=85
    ·rw[if_pos h5]at h;cases hb3:Aq 60 s with
     |none=>rw[hb3]at h;cases h
     |some q=>
      rw[hb3]at h;simp only at h;rw[Ce]at hb3;subst hb3;cases hg:Cu (Al S m d) t.fields q with
      |none=>rw[hg]at h;cases h
      |some y=>
       obtain⟨p,y⟩:=y;rw[hg]at h;simp only at h;cases hb4:Aq 62 y with
       |none=>rw[hb4]at h;cases h
       |some z=>
        rw[hb4]at h;simp only[ah,aC]at h;obtain⟨rfl,rfl⟩:=h;rw[Ce]at hb4;subst hb4;obtain⟨_,h2,h3,rfl⟩:=P5 (P:=fun f v=>Nm S d f.kind v) hK hg;exact⟨.uni hs hb ht h5 h2 h3,by rw[Tf];simp⟩
    rw[if_neg h5]at h;have h2:t.sort=82:=by
     rcases(hS t (Ch ht).1).1 with h|h|h
     ·exact h
     ·exact absurd h h5
     exact absurd h h9
    cases hb3:Aq 123 s with
    |none=>rw[hb3]at h;cases h
    |some q=>
     rw[hb3]at h;simp only at h;rw[Ce]at hb3;subst hb3;cases hb4:Aq 125 q with
     |some z=>
      rw[hb4]at h;simp only[ah,aC]at h;obtain⟨rfl,rfl⟩:=h;rw[Ce]at hb4;subst hb4;exact⟨.rcd (fs:=[]) hs hb ht h2 aH aH aH aH,rfl⟩
     |none=>
      rw[hb4]at h;simp only at h;cases hg:Dz S (Al S m d) t.fields 201 0 q with
      |none=>rw[hg]at h;cases h
      |some y=>
       obtain⟨ps,y⟩:=y;rw[hg]at h;simp only[ah,aC]at h;obtain⟨rfl,rfl⟩:=h;obtain⟨_,i2,i3,i4⟩:=Qdl (P:=fun f v=>Nm S d f.kind v) hK _ _ _ _ _ hg;exact⟨.rcd hs hb ht h2 (fun p hp=>(i2 p hp).2.1) (fun p hp=>(i2 p hp).2.2.1) (fun p hp=>(i2 p hp).2.2.2) i3,by rw[Qo,i4];simp⟩
theorem Qhq{S:List Ty}{d:Nat}{k:Kd}{v:Vl}(h:Nm S d k v):∃c t,Bi v=c::t/\c≠93/\c≠125/\c≠44:=by
 cases h with
 |@n _ _ m hs hb h=>
  have e:Bi (.mk 110 (Au m) 0 [])=Au m:=by simp[Bi,D7,H9]
  rw[e];cases hd:Au m with
  |nil=>exact absurd hd (Pn m)
  |cons c t=>
   have:=Np m;rw[hd,List.all_cons,au,Dd]at this;refine⟨c,t,rfl,?_,?_,?_⟩<;>(rintro rfl;revert this;simp)
 |t=>exact⟨39,_,rfl,by decide,by decide,by decide⟩
 |@f _ _ b=>cases b<;>exact⟨_,_,rfl,by decide,by decide,by decide⟩
 |lst=>exact⟨91,_,rfl,by decide,by decide,by decide⟩
 |non=>exact⟨45,_,rfl,by decide,by decide,by decide⟩
 |som=>exact⟨43,_,rfl,by decide,by decide,by decide⟩
 |enm=>exact⟨35,_,rfl,by decide,by decide,by decide⟩
 |uni=>exact⟨60,_,rfl,by decide,by decide,by decide⟩
 |rcd=>exact⟨123,_,rfl,by decide,by decide,by decide⟩
theorem Ki{S:List Ty}(hS:∀t∈S,En t){m:Nat}(hm:20<=m):∀(d:Nat) (k:Kd) (v:Vl) (r:List UInt8),Nm S d k v->Pt r->Al S m d k (Bi v++r)=some (v,r):=by
 intro d;induction d with
 |zero=>intro k v r h;cases h
 |succ d ih=>
  intro k v r h hr;unfold Al;cases h with
  |@n _ _ n hs hb h=>
   rw[hs];simp only;rw[if_pos hb];have e:Bi (.mk 110 (Au n) 0 [])=Au n:=by simp[Bi,D7,H9]
   rw[e,Qa5 h hr]
  |@t _ _ s hs hb h=>
   rw[hs];simp only;rw[if_neg bH,if_pos hb];rw[show Mp (Bi (.mk 116 s 0 [])++r)=some (s,r)from Yo.2 ⟨h,by simp[Bi,D7,H9]⟩]
  |@f _ _ b hs hb=>
   rw[hs];simp only;rw[if_neg bH,if_neg bH,if_pos hb];rw[show Pc (Bi (.mk 102 (if b then Dy else Kh) 0 [])++r)=some (b,r)from Vz.2 (by cases b<;>simp[Bi,D7,H9])]
  |@lst _ _ t ks hs hl h=>
   rw[hs];simp only;rw[if_pos Ac];unfold S6;rw[Ji,ar,Bc];simp only;cases ks with
   |nil=>rfl
   |cons x ks=>
    obtain⟨c,q,e1,e2,_⟩:=Qhq (h x aH);have e3:Aq 93 (As 44 ((x::ks).map Bi)++[93]++r)=none:=by
     cases ks with
     |nil=>simp only[aw,List.map_nil,As,e1,ar,C5 e2]
     |cons y ks=>rw[aw,Cx 44 _ aH,e1];simp only[ar,C5 e2]
    rw[e3];simp only;rw[List.append_assoc,List.singleton_append,Sp m (x::ks) r (fun y hy r hr=>ih _ _ _ (h y hy) hr) aH aF];simp only;rw[if_pos hl]
  |@non _ _ t hs=>rw[hs];rfl
  |@som _ _ t x hs h=>
   rw[hs];simp only;rw[if_neg aI];have e:Bi (.mk 63 [] 0 [x])=43::Bi x:=by simp[Bi,D7,H9,As]
   unfold Qbw;rw[e,ar,C5 aI,Bc];simp only;rw[ih _ _ _ h hr]
  |@enm _ _ t f hs hb ht h9 hf=>
   rw[hs];simp only;rw[if_neg bH,if_neg bH,if_neg bH,ht];simp only;unfold Jq;have h200:f.tag<=200:=((hS t (Ch ht).1).2.2.1.1 f (Ci hf).2).2.1;have e:Bi (.mk 69 [] f.tag [])=35::Au f.tag:=by simp[Bi,D7,H9]
   rw[if_pos h9,e,ar,Bc];simp only;rw[Qcd h200 hf hr]
  |@uni _ _ t f x hs hb ht h5 hf h=>
   rw[hs];simp only;rw[if_neg bH,if_neg bH,if_neg bH,ht];simp only;unfold Jq;have h9:t.sort≠69:=eJ;rw[if_neg h9,if_pos h5,Tf,ar,Bc];simp only;rw[List.append_assoc,List.singleton_append,P4 (p:=(f,x)) (Sj hS ht h9 (Ci hf).2).2 hf (ih _ _ (62::r) h (H8 (c:=62) _ aI))];simp only[Bc]
  |@rcd _ _ t fs hs hb ht h2 hf h hn hp=>
   rw[hs];simp only;rw[if_neg bH,if_neg bH,if_neg bH,ht];simp only;unfold Jq;have h9:t.sort≠69:=dc;rw[if_neg h9,if_neg dc,Qo,ar,Bc];simp only;cases fs with
   |nil=>rfl
   |cons p fs=>
    have e3:Aq 125 (As 44 ((p::fs).map fun p=>Bi (Ee p))++[125]++r)=none:=by
     have e1:Bi (Ee p)=Au p.1.tag++61::Bi p.2:=by simp[Ee,Bi,D7,H9,As]
     cases hd:Au p.1.tag with
     |nil=>exact absurd hd (Pn _)
     |cons c q=>
      have hc:=Np p.1.tag;rw[hd,List.all_cons,au,Dd]at hc;have e2:c≠125:=by rintro rfl;revert hc;simp
      rw[hd]at e1;cases fs with
      |nil=>simp only[aw,List.map_nil,As,e1,ar,C5 e2]
      |cons y fs=>rw[aw,Cx 44 _ aH,e1];simp only[ar,C5 e2]
    rw[e3];simp only
    rw[List.append_assoc,List.singleton_append,Tv 201 0 (p::fs) r (fun q hq r hr=>ih _ _ _ (h q hq) hr) aH
     (fun q hq=>?_) hp aF]
    have hm:=(Ci (hf q hq)).2;have h1:=((hS t (Ch ht).1).2.2.1.1 q.1 hm).1;exact⟨h1,(Sj hS ht h9 hm).2,hf q hq,hn q hq⟩
theorem Qiw{S:List Ty}(hS:∀t∈S,En t){d:Nat}{k:Kd}{v u:Vl}(hv:Nm S d k v)(hu:Nm S d k u)(h:Bi v=Bi u):v=u:=by
 have h1:=Ki hS (Am 20) d k v [] hv Mx;have h2:=Ki hS (Am 20) d k u [] hu Mx;rw[h,h2]at h1;injection h1 with h1;injection h1 with h1;exact h1.symm
def Mr(S:List Ty)(k:Kd)(s:List UInt8):Option Vl:=
 if 400<s.length then none else match Al S 20 12 k s with
  |some (v,[])=>some v
  |_=>none
theorem Mj{S:List Ty}(hS:∀t∈S,En t){k:Kd}(hk:Cs k){s:List UInt8}{v:Vl}:Mr S k s=some v↔Nm S 12 k v/\Bi v=s/\s.length<=400:=by
 unfold Mr;constructor
 ·intro h;split at h
  ·cases h
  rename_i hl;cases hr:Al S 20 12 k s with
  |none=>rw[hr]at h;cases h
  |some q=>
   obtain⟨x,r⟩:=q;rw[hr]at h;cases r with
   |cons c t=>cases h
   |nil=>
    simp only[ah]at h;subst h;obtain⟨h1,h2⟩:=Fp hS 20 12 k s x [] hk hr;exact⟨h1,by rw[h2,List.append_nil],by omega⟩
 rintro⟨h1,rfl,hl⟩;rw[if_neg aF];have:=Ki hS (Am 20) 12 k v [] h1 Mx;rw[List.append_nil]at this;rw[this]
theorem Qfd{S:List Ty}(hS:∀t∈S,En t){k:Kd}(hk:Cs k){s:List UInt8}(hl:s.length<=400)(m n:Nat)(hm:20<=m)(hn:12<=n):
  Mr S k s=match Al S m n k s with|some (v,[])=>if Kq v<=12 then some v else none|_=>none:=by
 cases hr:Al S m n k s with
 |none=>
  cases hv:Mr S k s with
  |none=>rfl
  |some v=>
   obtain⟨h1,h2,_⟩:=(Mj hS hk).1 hv;have h3:Nm S n k v:=(Gq S _ _ _ h1 n).2 (aa ((Gq S _ _ _ h1 12).1 h1) hn);have:=Ki hS hm n k v [] h3 Mx;rw[List.append_nil,h2,hr]at this;cases this
 |some q=>
  obtain⟨x,r⟩:=q;obtain⟨h1,h2⟩:=Fp hS m n k s x r hk hr;cases r with
  |nil=>
   simp only;rw[List.append_nil]at h2;by_cases hd:Kq x<=12
   ·rw[if_pos hd,Mj hS hk];exact⟨(Gq S _ _ _ h1 12).2 hd,h2.symm,hl⟩
   rw[if_neg hd];cases hv:Mr S k s with
   |none=>rfl
   |some v=>
    obtain⟨i1,i2,_⟩:=(Mj hS hk).1 hv;have h3:Nm S n k v:=(Gq S _ _ _ i1 n).2 (aa ((Gq S _ _ _ i1 12).1 i1) hn);have e:=Qiw hS h3 h1 (by rw[i2,h2]);subst e;exact absurd ((Gq S _ _ _ i1 12).1 i1) hd
  |cons c t=>
   simp only;cases hv:Mr S k s with
   |none=>rfl
   |some v=>
    obtain⟨i1,i2,_⟩:=(Mj hS hk).1 hv;have h3:Nm S n k v:=(Gq S _ _ _ i1 n).2 (aa ((Gq S _ _ _ i1 12).1 i1) hn);have:=Ki hS hm n k v [] h3 Mx;rw[List.append_nil,i2,hr]at this;injection this with this;injection this with _ this;cases this
def Qjj(R:Cc->Cc->Prop)(a b:Kd):Prop:=a.signs=b.signs/\a.base=b.base/\(a.base=[64]->R a.name b.name)
def Qhc(S T:List Ty)(R:Cc->Cc->Prop)(t:Ty)(st:UInt8)(g:Fd):Prop:=
 match Bl t.fields g.tag with
 |none=>st=82
 |some f=>st=69\/(Qjj R f.kind g.kind/\(st=82->M6 S f=M6 T g))
def Zm(S T:List Ty)(R:Cc->Cc->Prop)(a b:Cc):Prop:=∃t u,Bu S a=some t/\Bu T b=some u/\t.sort=u.sort/\∀g∈u.fields,Qhc S T R t u.sort g
abbrev inM(m:List Cr)(a b:Cc):Prop:=(a,b)∈m
theorem Qjj.mono{R Q:Cc->Cc->Prop}(h:∀a b,R a b->Q a b){a b:Kd}(hk:Qjj R a b):Qjj Q a b:=⟨hk.1,hk.2.1,fun e=>h _ _ (hk.2.2 e)⟩
theorem Qhc.mono{S T:List Ty}{R Q:Cc->Cc->Prop}(h:∀a b,R a b->Q a b){t:Ty}{st:UInt8}{g:Fd}(hk:Qhc S T R t st g):Qhc S T Q t st g:=by
 unfold Qhc at hk ⊢;cases hf:Bl t.fields g.tag with
 |none=>rw[hf]at hk;exact hk
 |some f=>
  rw[hf]at hk;rcases hk with hk|⟨x,y⟩
  ·exact .inl hk
  exact .inr ⟨x.mono h,y⟩
theorem Zm.mono{S T:List Ty}{R Q:Cc->Cc->Prop}(h:∀a b,R a b->Q a b){a b:Cc}(hk:Zm S T R a b):Zm S T Q a b:=by
 obtain⟨t,u,e1,e2,e3,e4⟩:=hk;exact⟨t,u,e1,e2,e3,fun g hg=>(e4 g hg).mono h⟩
def Qd0(S T:List Ty)(m m':List Cr):Prop:=∀a b,(a,b)∈m'->(a,b)∉m->Zm S T (inM m') a b
theorem Qd0.trans{S T:List Ty}{m1 m2 m3:List Cr}(h1:Qd0 S T m1 m2)(h2:Qd0 S T m2 m3)(hs:∀p∈m2,p∈m3):Qd0 S T m1 m3:=by
 intro a b h3 hn;by_cases h:(a,b)∈m2
 ·exact(h1 a b h hn).mono fun x y hxy=>hs _ hxy
 exact h2 a b h3 h
def Sz(ρ:Cc->Cc)(k:Kd):Kd:=if k.base=[64]then {k with name:=ρ k.name} else k
def Pr(ρ:Cc->Cc)(st:UInt8)(f:Fd):Fd:=if st=69 then f else {f with kind:=Sz ρ f.kind}
def Th(ρ:Cc->Cc)(t:Ty):Ty:={t with name:=ρ t.name,fields:=t.fields.map (Pr ρ t.sort)}
theorem Tl(ρ:Cc->Cc)(k:Kd):(Sz ρ k).signs=k.signs:=eF
theorem Pi(ρ:Cc->Cc)(k:Kd):(Sz ρ k).base=k.base:=eF
theorem Mh{ρ:Cc->Cc}{k:Kd}(h:k.base=[64]):(Sz ρ k).name=ρ k.name:=by unfold Sz;rw[if_pos h]
theorem Qge(ρ:Cc->Cc)(st:UInt8)(f:Fd):(Pr ρ st f).tag=f.tag:=by unfold Pr;split<;>rfl
theorem Qdn(ρ:Cc->Cc)(st:UInt8)(f:Fd):(Pr ρ st f).given=f.given:=by unfold Pr;split<;>rfl
theorem Pj{ρ:Cc->Cc}{st:UInt8}(h:st≠69)(f:Fd):(Pr ρ st f).kind=Sz ρ f.kind:=by unfold Pr;rw[if_neg h]
theorem Qi5(k:Kd):Sz id k=k:=eF
theorem Qjp(st:UInt8)(f:Fd):Pr id st f=f:=by unfold Pr;split;rfl;rw[Qi5]
theorem Qjf(t:Ty):Th id t=t:=by
 unfold Th;have:t.fields.map (Pr id t.sort)=t.fields:=by
  rw[show Pr id t.sort=id from funext fun f=>Qjp _ f];simp
 rw[this];rfl
def inN(ns:List Cc)(k:Kd):Prop:=k.base=[64]->k.name∈ns
structure Ren(S T:List Ty)(ns:List Cc)(ρ:Cc->Cc):Prop where
 get:∀n∈ns,∃t,Bu S n=some t/\Bu T (ρ n)=some (Th ρ t)/\En t/\(t.sort≠69->∀f∈t.fields,inN ns f.kind)
 inj:∀a∈ns,∀b∈ns,ρ a=ρ b->a=b
theorem Ren.met{S T:List Ty}{ns:List Cc}{ρ:Cc->Cc}(h:Ren S T ns ρ):∀(n:Nat) (k:Kd) (out:List Cc),inN ns k->(∀x∈out,x∈ns) ->
  Ru T n (Sz ρ k) (out.map ρ)=(Ru S n k out).map ρ/\∀x∈Ru S n k out,x∈ns
 |0,k,out,_,ho=>⟨rfl,ho⟩
 |n+1,k,out,hk,ho=>by
  by_cases hb:k.base=[64]
  ·have hkn:=hk hb;have hmem:ρ k.name∈out.map ρ↔k.name∈out:=by
    rw[av];exact⟨fun⟨y,hy,e⟩=>by rw[<-h.inj y (ho y hy) k.name hkn e];exact hy,fun hy=>⟨_,hy,rfl⟩⟩
   by_cases hin:k.name∈out
   ·rw[Ru,Ru,if_neg (by rw[Mh hb];exact fun hh=>hh.2 (hmem.2 hin)),if_neg (fun hh=>hh.2 hin)];exact⟨rfl,ho⟩
   obtain⟨t,e1,e2,e3,e4⟩:=h.get _ hkn;have ho2:∀x∈out++[k.name],x∈ns:=fun x hx=>by
    rcases ad.1 hx with hx|hx
    ·exact ho x hx
    simp at hx;subst hx;exact hkn
   rw[Ru,Ru,if_pos ⟨by rw[Pi];exact hb,by rw[Mh hb];exact fun hh=>hin (hmem.1 hh)⟩,if_pos ⟨hb,hin⟩,Mh hb,e1,e2];simp only;rw[show (Th ρ t).sort=t.sort from rfl,show (Th ρ t).fields=t.fields.map (Pr ρ t.sort)from rfl];have em:out.map ρ++[ρ k.name]=(out++[k.name]).map ρ:=aH;by_cases h69:t.sort=69
   ·rw[if_pos h69,if_pos h69];exact⟨em,ho2⟩
   rw[if_neg h69,if_neg h69,em];have key:∀(fs:List Fd),(∀f∈fs,inN ns f.kind)->∀(o:List Cc),(∀x∈o,x∈ns) ->
     (fs.map (Pr ρ t.sort)).foldl (fun o f=>Ru T n f.kind o) (o.map ρ)=(fs.foldl (fun o f=>Ru S n f.kind o) o).map ρ/\∀x∈fs.foldl (fun o f=>Ru S n f.kind o) o,x∈ns:=by
    intro fs;induction fs with
    |nil=>intro _ o ho;exact⟨rfl,ho⟩
    |cons f fs ih=>
     intro hfs o ho;obtain⟨m1,m2⟩:=h.met n f.kind o (hfs f aH) ho;simp only[aw,List.foldl_cons];rw[Pj h69,m1];exact ih (fun g hg=>hfs g (by simp[hg])) _ m2
   exact key t.fields (e4 h69) _ ho2
  rw[Ru,Ru,if_neg (fun hh=>hb (by rw[Pi]at hh;exact hh.1)),if_neg (fun hh=>hb hh.1)];exact⟨rfl,ho⟩
theorem Ren.used{S T:List Ty}{ns:List Cc}(h:Ren S T ns id):∀(n:Nat) (k:Kd) (out:List Cc),inN ns k->Qu T n k out=Qu S n k out
 |0,k,out,_=>rfl
 |n+1,k,out,hk=>by
  by_cases hc:k.base=[64]/\Qk3 k.name out=false
  ·obtain⟨t,e1,e2,e3,e4⟩:=h.get _ (hk hc.1);rw[Qjf]at e2;rw[Qu,Qu,if_pos hc,if_pos hc,e1,show Bu T k.name=some t from e2];simp only;split
   ·rfl
   rename_i h69;have key:∀(fs:List Fd),(∀f∈fs,inN ns f.kind)->∀(o:List Cc),fs.foldl (fun o f=>Qu T n f.kind o) o=fs.foldl (fun o f=>Qu S n f.kind o) o:=by
    intro fs;induction fs with
    |nil=>intro _ o;rfl
    |cons f fs ih=>
     intro hfs o;simp only[List.foldl_cons];rw[h.used n f.kind o (hfs f aH)];exact ih (fun g hg=>hfs g (by simp[hg])) _
   exact key _ (e4 h69) _
  rw[Qu,Qu,if_neg hc,if_neg hc]
theorem Ren.stand{S T:List Ty}{ns:List Cc}{ρ:Cc->Cc}(h:Ren S T ns ρ):∀(n:Nat) (k:Kd),inN ns k->Zn k->C4 T n (Sz ρ k)=C4 S n k
 |0,_,_,_=>rfl
 |n+1,k,hk,hb=>by
  rw[C4,C4,Tl,Pi];split
  ·rfl
  split
  ·rfl
  split
  ·rfl
  rename_i h1;split
  ·rfl
  rename_i h2;split
  ·rfl
  rename_i h3;have hb64:k.base=[64]:=by
   rcases hb with⟨hb,_⟩|⟨hb|hb|hb,_⟩
   ·exact hb
   ·exact absurd hb h1
   ·exact absurd hb h2
   exact absurd hb h3
  obtain⟨t,e1,e2,e3,e4⟩:=h.get _ (hk hb64);rw[Mh hb64,e1,e2];simp only;rw[show (Th ρ t).sort=t.sort from rfl,show (Th ρ t).fields=t.fields.map (Pr ρ t.sort)from rfl];split
  ·rfl
  cases hf:t.fields with
  |nil=>rfl
  |cons f fs=>
   simp only[aw];rw[Qge];split
   ·rfl
   rename_i h69;rw[Pj h69,h.stand n f.kind (e4 h69 f dt) ((e3.2.2.1.1 f dt).2.2.2.2 h69).1.2.1]
theorem Ren.of{S T:List Ty}{ns:List Cc}{ρ:Cc->Cc}(h:Ren S T ns ρ){st:UInt8}{f:Fd}(h69:st≠69)(hf:S9 st f)(hk:inN ns f.kind):M6 T (Pr ρ st f)=M6 S f:=by
 unfold M6;rw[Qdn,Pj h69];unfold Ri;rw[h.stand 10 f.kind hk (hf.2.2.2.2 h69).1.2.1]
theorem Ren.ends{S T:List Ty}{ns:List Cc}{ρ:Cc->Cc}(h:Ren S T ns ρ):∀(n:Nat) (t:Ty),(t.sort≠69->∀f∈t.fields,inN ns f.kind)->Bs T n (Th ρ t)=Bs S n t
 |0,_,_=>rfl
 |n+1,t,ht=>by
  unfold Bs;by_cases h85:t.sort=85
  ·have h69:t.sort≠69:=dl;unfold E7;rw[show (Th ρ t).sort=t.sort from rfl,show (Th ρ t).fields=t.fields.map (Pr ρ t.sort)from rfl,if_pos h85,if_pos h85];cases hf:t.fields with
   |nil=>rfl
   |cons f fs=>
    simp only[aw];rw[Pj h69,Tl,Pi];by_cases hc:f.kind.signs=[]/\f.kind.base=[64]
    ·rw[if_pos hc,if_pos hc,Mh hc.2];obtain⟨u,e1,e2,e3,e4⟩:=h.get _ (ht h69 f dt hc.2);rw[e1,e2];exact h.ends n u e4
    rw[if_neg hc,if_neg hc]
  have e1:E7 T (Th ρ t)=none:=if_neg h85;have e2:E7 S t=none:=if_neg h85;rw[e1,e2]
def LOk(v:Vl)(r:Vl × Bool):Prop:=(r.2=false->r.1=v)/\(r.2=true->(Bi r.1).length<(Bi v).length)
theorem LOk.le{v:Vl}{r:Vl × Bool}(h:LOk v r):(Bi r.1).length<=(Bi v).length:=by
 cases e:r.2 with
 |false=>rw[h.1 e];exact Am _
 |true=>exact Nat.le_of_lt (h.2 e)
theorem LOk.same(v:Vl):LOk v (v,false):=⟨fun _=>rfl,fun h=>Bool.noConfusion h⟩
def Ef(ps:List (List UInt8)):Nat:=(ps.map fun p=>p.length+1).sum
theorem Fw(p:List UInt8)(ps:List (List UInt8)):Ef (p::ps)=p.length+1+Ef ps:=eV
theorem Cj(c:UInt8):∀ps:List (List UInt8),(As c ps).length=Ef ps - 1
 |[]=>rfl
 |[p]=>by simp[As,Ef]
 |p::q::ps=>by
  rw[Cx c p aH,af,List.length_cons,Cj c (q::ps),Fw p,Fw q];omega
theorem Rt(w:UInt8)(tx:List UInt8)(tg:Nat)(ks:List Vl):Bi (.mk w tx tg ks)=H9 w tx tg (ks.map Bi):=by rw[Bi,Q8]
theorem Pq(p:Fd × Vl):(Bi (Ee p)).length=(Au p.1.tag).length+1+(Bi p.2).length:=by simp[Ee,Bi,D7,H9,As];omega
theorem P7{fs:List Fd}{n:Nat}{f:Fd}(h:Bl fs n=some f):f∈fs/\f.tag=n:=⟨(Ci h).2,(Ci h).1⟩
def Re(s:List UInt8):List UInt8:=Dg s.length++s
def byW(w:UInt8)(tx:List UInt8)(tg:Nat)(bs:List (List UInt8)):List UInt8:=
 if w=110 then Dg ((Cg tx).getD 0)
 else if w=116 then Re tx
 else if w=102 then(if tx=Dy then[1]else[0])
 else if w=91 then Dg bs.length++bs.flatten
 else if w=63 then(match bs with|[]=>[0]|b::_=>1::b)
 else if w=69 then Dg tg
 else if w=82 then bs.flatten++[0]
 else Dg tg++Re (bs.headD [])
mutual
def Dp:Vl->List UInt8
 |.mk w tx tg ks=>byW w tx tg (Xu ks)
def Xu:List Vl->List (List UInt8)
 |[]=>[]
 |x::xs=>Dp x::Xu xs
end
theorem Q5:∀ks:List Vl,Xu ks=ks.map Dp
 |[]=>rfl
 |x::xs=>by rw[Xu,Q5 xs];rfl
theorem Qhf{m:Nat}(h:m<=999999):Dp (.mk 110 (Au m) 0 [])=Dg m:=by
 have:Cg (Au m)=some m:=Br.2 ⟨by omega,rfl⟩;simp[Dp,byW,this]
theorem Qef(s:List UInt8):Dp (.mk 116 s 0 [])=Re s:=by simp[Dp,byW]
theorem Qhx(b:Bool):Dp (.mk 102 (if b then Dy else Kh) 0 [])=[if b then 1 else 0]:=by cases b<;>simp[Dp,byW,Dy,Kh]
theorem Y7(ks:List Vl):Dp (.mk 91 [] 0 ks)=Dg ks.length++(ks.map Dp).flatten:=by simp[Dp,byW,Q5]
theorem Qac:Dp (.mk 63 [] 0 [])=[0]:=by simp[Dp,byW,Xu]
theorem Rb(x:Vl):Dp (.mk 63 [] 0 [x])=1::Dp x:=by simp[Dp,byW,Xu]
theorem Zx(g:Nat):Dp (.mk 69 [] g [])=Dg g:=by simp[Dp,byW]
theorem Zs(g:Nat)(x:Vl):Dp (.mk 85 [] g [x])=Dg g++Re (Dp x):=by simp[Dp,byW,Xu]
theorem Qj7(p:Fd × Vl):Dp (Ee p)=Dg p.1.tag++Re (Dp p.2):=by simp[Ee,Dp,byW,Xu]
theorem Zi(ps:List (Fd × Vl)):Dp (.mk 82 [] 0 (ps.map Ee))=(ps.map fun p=>Dg p.1.tag++Re (Dp p.2)).flatten++[0]:=by
 have e:Xu (ps.map Ee)=ps.map fun p=>Dg p.1.tag++Re (Dp p.2):=by
  rw[Q5,List.map_map];exact List.map_congr_left fun p _=>Qj7 p
 simp[Dp,byW,e]
theorem Qhb{x:Vl}{xs:List Vl}(h:x∈xs):(Dp x).length<=((xs.map Dp).flatten).length:=by
 induction xs with
 |nil=>cases h
 |cons y xs ih=>
  rw[aw,List.flatten_cons,af];rcases ay.1 h with rfl|h
  ·omega
  have:=ih h;omega
theorem Qin{p:Fd × Vl}{ps:List (Fd × Vl)}(h:p∈ps):(Dp p.2).length<=((ps.map fun p=>Dg p.1.tag++Re (Dp p.2)).flatten).length:=by
 induction ps with
 |nil=>cases h
 |cons y xs ih=>
  rw[aw,List.flatten_cons,af,af,Re,af];rcases ay.1 h with rfl|h
  ·omega
  have:=ih h;omega
theorem Zu(s:List UInt8):(Re s).length<=s.length+3:=by have:=Cb s.length;simp[Re];omega
theorem Qjx:∀ks:List Vl,(∀x∈ks,(Dp x).length<=4*(Bi x).length)->(ks.map Dp).flatten.length<=4*Ef (ks.map Bi)
 |[],_=>aH
 |x::ks,h=>by
  have h1:=h x aH;have h2:=Qjx ks fun y hy=>h y ev;rw[aw,List.flatten_cons,af,aw,Fw];omega
theorem Qld:∀ps:List (Fd × Vl),(∀p∈ps,(Dp p.2).length<=4*(Bi p.2).length)->(ps.map fun p=>Dg p.1.tag++Re (Dp p.2)).flatten.length<=4*Ef (ps.map fun p=>Bi (Ee p))
 |[],_=>aH
 |p::ps,h=>by
  have h1:=h p aH;have h2:=Qld ps fun y hy=>h y ev;have h3:=Cb p.1.tag;have h4:=Zu (Dp p.2);have h5:=Pq p;rw[aw,List.flatten_cons,af,af,aw,Fw];omega
theorem Qhu{S:List Ty}:∀(d:Nat) (k:Kd) (v:Vl),Nm S d k v->(Dp v).length<=4*(Bi v).length:=by
 intro d;induction d with
 |zero=>intro k v h;cases h
 |succ d ih=>
  intro k v h;cases h with
  |@n _ _ m hs hb h=>
   have h1:=Cb m;have h2:0<(Au m).length:=List.length_pos_iff.2 (Pn m);rw[Qhf h];simp[Bi,D7,H9];omega
  |@t _ _ s hs hb h=>
   have:=Zu s;rw[Qef];simp[Bi,D7,H9];omega
  |@f _ _ b hs hb=>rw[Qhx];cases b<;>simp[Bi,D7,H9,Dy,Kh]
  |@lst _ _ z ks hs hk h=>
   have h1:=Cb ks.length;have h2:=Qjx ks fun x hx=>ih _ _ (h x hx);have h3:=Cj 44 (ks.map Bi);rw[Y7,Ji];simp only[af,List.length_cons,List.length_nil];omega
  |@non _ _ z hs=>rw[Qac];simp[Bi,D7,H9]
  |@som _ _ z x hs h=>
   have:=ih _ _ h;rw[Rb];simp[Bi,D7,H9,As];omega
  |@enm _ _ t f hs hb ht h9 hf=>
   have:=Cb f.tag;rw[Zx];simp[Bi,D7,H9];omega
  |@uni _ _ t f x hs hb ht h5 hf h=>
   have h1:=ih _ _ h;have h2:=Cb f.tag;have h3:=Zu (Dp x);have h4:=Pq (f,x);rw[Zs,Tf];simp only[af,List.length_cons,List.length_nil]at h4 ⊢;omega
  |@rcd _ _ t fs hs hb ht h2 hf h hn hp=>
   have h1:=Qld fs fun p hq=>ih _ _ (h p hq);have h3:=Cj 44 (fs.map fun p=>Bi (Ee p));rw[Zi,Qo];simp only[af,List.length_cons,List.length_nil];omega
end
theorem Qkz(n:Nat)(h:n<256):Value.int .u8 (n:Int)=.int .u8 ((Cw n).toNat:Int):=by rw[Dm h]
theorem Qdk(n:Nat)(w:World)(hn:n<=999999):
  Calls prog 139 #[.int .i64 n] w fun e w'=>e=.returned (.tuple #[.string ⟨(Dg n).toArray⟩,.bool true])/\Below w w w':=by
 have hconv:=fun W v l (h:World.ownsRow W w 5 1 v l.length (Ea l))=>Qbs (P:=prog) W 22 5 9 underlying22 underlying5 underlying9 w.heap.size v l l.length rfl h;have Hconv:=Aa hconv;clear hconv;go_enter func139,ntmps139;go_wp2
 go_loopw [0,4] (fun x v wr=>∃(m:Nat) (l:List UInt8),x=.int .i64 m/\m<=999999/\Hid (l++Dg m=Dg n)/\l.length<=2/\wr.ownsRow w 5 1 v l.length (Ea l)/\Below w w wr) (fun x _ _=>(intOf x).toNat)
 case atStart=>exact⟨n,[],rfl,hn,rfl,by simp,World.ownsRow_nil _ _ _ _,Ar _ _⟩
 case round=>
  obtain⟨m,l,rfl,hm,hl,hl2,hown,hb⟩:=hrel;have hsz:=hb.size;by_cases hlt:128<=m
  ·go_wp2_with (at_builtin;go_loud (refine Jl _ rfl _ _ 22 rfl w 5 (.int .u8 0) 1 underlying22 Tryz.infoU8 rfl wr _ rfl rfl _ _ _ rfl rfl hown aY aF hsz ?_);intro v' w' hown' hb';have Ho:=Aa hown';clear hown')
   go_roundw
   case rel=>
    have e1:((m:Int) % 128+128)=((Cw (m % 128+128)).toNat:Int):=by rw[Dm aF];omega
    refine⟨m / 128,l++[Cw (m % 128+128)],by go_num,by omega,?_,?_,?_,hb.trans hb'⟩
    ·have:=hl.o;rw[Rj hlt aF]at this;show (l++[Cw (m % 128+128)])++Dg (m / 128)=Dg n;rw[<-this];simp
    ·have h1:=hl.o;have h2:=congrArg List.length h1;rw[Rj hlt aF]at h2;have:=Cb n;have:=S1 (m / 128);simp at h2 ⊢;omega
    ·have:=Ho.o;rw[e1]at this;rw[Sk,af];exact this
   case measure=>simp[intOf];omega
  ·have e1:Value.int .u8 (m:Int)=.int .u8 ((Cw m).toNat:Int):=Qkz m aF;have E1:=Aa e1;clear e1;have hfin:l++[Cw m]=Dg n:=by have:=hl.o;rw[Tn aF]at this;exact this
   have Hfin:=Aa hfin;clear hfin;go_wp2_with (at_builtin;refine Jl _ rfl _ _ 22 rfl w 5 (.int .u8 0) 1 underlying22 Tryz.infoU8 rfl wr _ rfl rfl _ _ _ rfl rfl hown aY aF hsz ?_;intro v' w' hown' hb';rw[E1.o,<-Sk]at hown';have hcv:=Qbs (P:=prog) w' 22 5 9 underlying22 underlying5 underlying9 w.heap.size v' (l++[Cw m]) (l.length+1) aH hown';clear hown')
   go_ret2;exact⟨by rw[Hfin.o];rfl,hb.trans hb'⟩
theorem Gn(n:Nat)(w:World)(hn:n<=999999):
  Calls prog 78 #[.int .i64 n] w fun e w'=>e=.returned (.string ⟨(Dg n).toArray⟩)/\Below w w w':=by
 go_enter func78,ntmps78;go_wp2_with (go_at_call 139;refine(Qdk n _ hn).mono ?_;rintro e w' ⟨rfl,hb⟩)
 go_ret;exact⟨rfl,hb⟩
theorem Yr(l:List UInt8)(w:World)(hn:l.length<=999999):
  Calls prog 202 #[l] w fun e w'=>e=.returned (.string ⟨(Dg l.length++l).toArray⟩)/\Below w w w':=by
 have h3:=Cb l.length;go_enter func202,ntmps202;go_wp2_with (go_at_call 78;refine(Gn l.length _ hn).mono ?_;rintro e w' ⟨rfl,hb⟩)
 go_ret;exact⟨rfl,hb⟩
theorem Qfs(n:Nat)(w:World)(hn:n<128):
  Calls prog 76 #[.int .i64 n] w fun e w'=>e=.returned (.string ⟨(Dg n).toArray⟩)/\Below w w w':=by
 have Hfin:=Aa (Tn hn);have hcv:=fun W=>Py W w 1 (Cw n);rw[Dm aF]at hcv;go_enter func76,ntmps76;go_wp2_with fail;exact hZ
theorem Qde(k:Nat)(hk:k<2097152)(ih:∀(n:Nat) (w:World),n<k->Calls prog 76 #[.int .i64 n] w fun e w'=>e=.returned (.string ⟨(Dg n).toArray⟩)/\Below w w w')(w:World)(hn:128<=k):
  Calls prog 76 #[.int .i64 k] w fun e w'=>e=.returned (.string ⟨(Dg k).toArray⟩)/\Below w w w':=by
 have h3:=Cb (k / 128);have ih':=Aa (ih (k / 128) · aF);have Hfin:=Aa (Rj hn hk);clear ih;have hcv:=fun W g=>Py W g 1 (Cw (k % 128+128));have h1:IntKind.u8.wrap (IntKind.i64.wrap (128+(k:Int).tmod 128))=((Cw (k % 128+128)).toNat:Int):=by
  exact i7
 have h2:IntKind.i64.wrap ((k:Int) / 128)=((k / 128:Nat):Int):=fC;go_enter func76,ntmps76;go_wp2_with fail;go_region_with (go_at_call 76;refine(ih'.out _).mono ?_;rintro e w' ⟨rfl,hb⟩;obtain⟨hc,hf,hz⟩:=Bx hb)
 all_goals
  go_wp2
  go_ret;refine⟨by rw[Hfin.o];rfl,?_⟩;have hsz:=hb.size;repeat (first|exact Ar _ _|refine Below.drew ?_|refine Below.alloc ?_ (by simp at hsz ⊢;first|omega|done) _|refine Below.trans ?_ (hb.mono aH))
theorem Mk(n:Nat)(w:World)(hn:n<2097152):
  Calls prog 76 #[.int .i64 n] w fun e w'=>e=.returned (.string ⟨(Dg n).toArray⟩)/\Below w w w':=by
 have key:∀k,k<=2097152->∀(n:Nat) (w:World),n<k->Calls prog 76 #[.int .i64 n] w fun e w'=>e=.returned (.string ⟨(Dg n).toArray⟩)/\Below w w w':=by
  intro k;induction k with
  |zero=>intro _ n w h;omega
  |succ k ih=>
   intro hk n w h;by_cases h1:n<128
   ·exact Qfs n w h1
   by_cases h2:n<k
   ·exact ih aF n w h2
   obtain rfl:n=k:=aF;exact Qde n aF (ih aF) w aF
 exact key 2097152 (Am _) n w hn
def Fz:List (Value->Prop)->Nat->Value->Prop
 |[],_,_=>True
 |p::_,0,v=>p v
 |_::ps,n+1,v=>Fz ps n v
def Qbr:List (Value->Prop)->Nat->(Nat->Value)->Prop
 |[],_,_=>True
 |p::ps,i,u=>p (u i)/\Qbr ps (i+1) u
theorem Qek:∀(ps:List (Value->Prop)) (i:Nat) (u:Nat->Value),(∀j,j<ps.length->Fz ps j (u (i+j)))->Qbr ps i u
 |[],_,_,_=>Ac
 |p::ps,i,u,h=>⟨h 0 (by simp),Qek ps (i+1) u fun j hj=>by
  have:=h (j+1) (by simp;omega)
  rwa [show i+(j+1)=i+1+j by omega]at this⟩
theorem Qbg:∀(ps qs:List (Value->Prop)) (j:Nat) (v:Value),j<ps.length->Fz (ps++qs) j v=Fz ps j v
 |[],_,_,_,h=>by simp at h
 |p::ps,_,0,_,_=>rfl
 |p::ps,qs,j+1,v,h=>Qbg ps qs j v (by simpa using h)
theorem Qb6:∀(ps:List (Value->Prop)) (p:Value->Prop) (v:Value),Fz (ps++[p]) ps.length v=p v
 |[],_,_=>rfl
 |_::ps,p,v=>Qb6 ps p v
def Qj1(ops:Array Oper)(j i:Nat):Bool:=((ops[j]?).map fun o=>o.after.toList.any fun e=>decide (e.on=i) && Region.binds .any e).getD false
section
variable {P:Program} {ops:Array Oper} {Q:Exit->Act->World->Prop} {a:Act} {mk:(Nat->Value)->Act} {R:(Nat->Bool)->(Nat->Value)->World->Prop} {G:World->Prop}
def Dx:List Oper->List Nat
 |[]=>[]
 |o::os=>(match o.dst with|some d=>d|none=>100000+os.length)::Dx os
def St(P:Program)(ops:Array Oper)(Q:Exit->Act->World->Prop)(a:Act)(mk:(Nat->Value)->Act)(R:(Nat->Bool)->(Nat->Value)->World->Prop)(G:World->Prop)(i:Nat)(o:Oper)(ps:List (Value->Prop))(p:Value->Prop):Prop:=
 ∀(l:Nat->Bool) (u:Nat->Value) (W:World),l i=false->(∀e∈o.after,Region.binds .any e=true->l e.on=true/\Fz ps e.on (u e.on))->Hid (R l u W)->G W->Hid (∀j,Qj1 ops j i=true->l j=false/\u j=a.tmps.toList.getD ((Dx ops.toList).getD j 0) undef) ->
  ∀K:Act->World->Prop,(∀v w' a',p v->R (fun j=>if j=i then true else l j) (fun j=>if j=i then v else u j) w'->a'=(mk u).put o.dst v->K a' w') ->
   if Region.wanted o (yielded ops (mk u).tmps)=true then Oper.wp P o (mk u) W K Q else K ((mk u).put o.dst undef) W
def Sq(P:Program)(ops:Array Oper)(Q:Exit->Act->World->Prop)(a:Act)(mk:(Nat->Value)->Act)(R:(Nat->Bool)->(Nat->Value)->World->Prop)(G:World->Prop):List Oper->Nat->List (Value->Prop)->Prop
 |[],n,ps=>∀l u W,(∀i,i<n->l i=true)->Qbr ps 0 u->R l u W->Q .normal (mk u) W
 |o::os,i,ps=>∃p,St P ops Q a mk R G i o ps p/\Sq P ops Q a mk R G os (i+1) (ps++[p])
theorem Sq.all:∀(os:List Oper) (i:Nat) (ps:List (Value->Prop)),ps.length=i->Sq P ops Q a mk R G os i ps ->
  ∃qs:List (Value->Prop),qs.length=os.length/\(∀j o,os[j]?=some o->St P ops Q a mk R G (i+j) o ((ps++qs).take (i+j)) (Fz (ps++qs) (i+j)))/\∀l u W,(∀j,j<i+os.length->l j=true)->Qbr (ps++qs) 0 u->R l u W->Q .normal (mk u) W
 |[],i,ps,hl,h=>⟨[],rfl,by simp,by simpa [Sq]using h⟩
 |o::os,i,ps,hl,⟨p,h1,h2⟩=>by
  obtain⟨qs,e,h3,h4⟩:=Sq.all os (i+1) (ps++[p]) (by simp[hl]) h2
  refine⟨p::qs,by simp[e],fun j o' ho=>?_,fun l u W hl'=>?_⟩
  ·cases j with
   |zero=>
    simp at ho
    subst ho
    have e1:(ps++p::qs).take (i+0)=ps:=by rw[Nat.add_zero,<-hl];simp
    have e2:Fz (ps++p::qs) (i+0)=p:=by
     funext v
     rw[Nat.add_zero,show ps++p::qs=(ps++[p])++qs by simp,Qbg _ _ _ _ (by simp;omega),<-hl,Qb6]
    rw[e1,e2]
    exact h1
   |succ j=>
    simp at ho
    have:=h3 j o' ho
    rw[List.append_assoc,List.singleton_append,show i+1+j=i+(j+1)by omega]at this
    exact this
  have:=h4 l u W fun j hj=>hl' j (by simp only[List.length_cons];omega)
  rwa [List.append_assoc,List.singleton_append]at this
theorem Yk:∀(ps:List (Value->Prop)) (i j:Nat) (v:Value),j<i->Fz (ps.take i) j v=Fz ps j v
 |[],_,_,_,_=>by simp
 |p::ps,0,_,_,h=>absurd h (by omega)
 |p::ps,i+1,0,_,_=>rfl
 |p::ps,i+1,j+1,v,h=>Yk ps i j v (by omega)
theorem rgF{id:Nat}{w:World}(R:(Nat->Bool)->(Nat->Value)->World->Prop)(G:World->Prop)(hG:∀l u W,R l u W->G W)(h0:R (fun _=>false) (fun i=>a.tmps.toList.getD ((Dx ops.toList).getD i 0) undef) w.drew)(h:Sq P ops Q a mk R G ops.toList 0 [])
  (hc:(P.follows .mixedOrders && (List.range ops.size).all (fun i=>((ops[i]?).map fun o=>o.after.all fun e=>!Region.binds .any e || decide (e.on<i)).getD true) && Fy a.tmps.size ops.toList (Dx ops.toList))=true:=by kernel_rfl)
  (hmk:∀u,Bp a (Dx ops.toList) u=mk u:=by intro u;dsimp only[Bp,Dx,Bh,List.set,Nat.zero_add,Nat.reduceAdd,List.length_cons,List.length_nil]):(Code.region id ops true).wp P Q a w:=by
 have h1:=Bool.and_eq_true_iff.1 hc
 have h2:=Bool.and_eq_true_iff.1 h1.1
 obtain⟨qs,e,h3,h4⟩:=Sq.all ops.toList 0 [] rfl h
 rw[List.nil_append]at h3 h4
 have hac:=h2.2
 refine Bb (Dx ops.toList) h2.1 hac h1.2 hmk (fun i v _=>Fz qs i v) R (fun _ _=>True) (fun _ _ _ _ _ h=>h) h0 ?_ ?_
 ·intro i o ho l u W hl hp hF hun hdep K hK
  simp only[Nat.zero_add]at *
  have hs:=h3 i o ho
  refine hs l u W hl (fun e he hb=>⟨(hp e he hb).1,?_⟩) hF (hG l u W hF) (fun j hj=>?_) K fun v w' a' hv hF' ha=>hK v w' a' hv Ac hF' ha
  ·have ho':ops[i]?=some o:=by simpa using ho
   have hlt:i<ops.size:=(Array.getElem?_eq_some_iff.1 ho').1
   have hh:=List.all_eq_true.1 hac i (List.mem_range.2 hlt)
   rw[ho']at hh
   have h5:=Array.all_eq_true_iff_forall_mem.1 hh e he
   have h6:e.on<i:=by simpa [hb]using h5
   rw[Yk _ _ _ _ h6]
   exact(hp e he hb).2
  unfold Qj1 at hj
  cases hjo:ops[j]? with
  |none=>rw[hjo]at hj;cases hj
  |some o'=>
   rw[hjo]at hj
   simp only[Option.map_some,Option.getD_some]at hj
   obtain⟨e,he,h5⟩:=List.any_eq_true.1 hj
   rw[Bool.and_eq_true,decide_eq_true_iff]at h5
   obtain⟨rfl,h6⟩:=h5
   have:=hdep j o' hjo e (by simpa using he) h6 hl
   exact⟨this,hun j this⟩
 intro l u W hl hφ hF
 exact h4 l u W (fun j hj=>hl j (by rw[<-Array.length_toList];omega)) (Qek _ _ _ fun j hj=>by rw[Nat.zero_add];exact hφ j (by rw[<-Array.length_toList];omega)) hF
def Gr(w W:World):Prop:=∀b o k,b<w.heap.size->W.cell? ⟨b,o,k⟩=w.cell? ⟨b,o,k⟩
theorem P8{w W:World}(h:Below w.heap.size w W):Gr w W:=fun b o k hb=>h.cell (p:=⟨b,o,k⟩) hb
theorem rgB{id:Nat}{w:World}(h:Sq P ops Q a mk (fun _ _=>Below w.heap.size w) (Gr w) ops.toList 0 [])
  (hc:(P.follows .mixedOrders && (List.range ops.size).all (fun i=>((ops[i]?).map fun o=>o.after.all fun e=>!Region.binds .any e || decide (e.on<i)).getD true) && Fy a.tmps.size ops.toList (Dx ops.toList))=true:=by kernel_rfl)
  (hmk:∀u,Bp a (Dx ops.toList) u=mk u:=by intro u;dsimp only[Bp,Dx,Bh,List.set,Nat.zero_add,Nat.reduceAdd,List.length_cons,List.length_nil]):(Code.region id ops true).wp P Q a w:=
 rgF (fun _ _=>Below w.heap.size w) (Gr w) (fun _ _ _ h=>P8 h) (Ar _ _).drew h hc hmk
section
variable {o:Oper} {os:List Oper} {i:Nat} {ps:List (Value->Prop)} {v:Value}
theorem sq(k:Sq P ops Q a mk R G os (i+1) (ps++[fun x=>x=v]))(h:St P ops Q a mk R G i o ps (fun x=>x=v):=by
  intro l u W hl hp hF hG hi K hK
  first|unfold Gr at hG|skip
  first|(simp[Region.binds,Fz]at hp;done)|simp[Region.binds,Fz]at hp|clear hp
  go_simp
  exact hK _ _ _ rfl hF.o (by first|rfl|(simp[Act.put,hp];done)|(simp[Act.put,hp];exact rfl))):Sq P ops Q a mk R G (o::os) i ps:=⟨_,h,k⟩
theorem sqC{C:World->Prop}{n:Nat}{w:World}(X:∀W,Below n w W->C W)(k:Sq P ops Q a mk (fun _ _=>Below n w) G os (i+1) (ps++[fun x=>x=v]))(h:(∀W,Below n w W->C W)->St P ops Q a mk (fun _ _=>Below n w) G i o ps (fun x=>x=v):=by
  intro X l u W hl hp hF hG hi K hK
  have HX:=X W hF.o
  first|unfold Gr at hG|skip
  first|(simp[Region.binds,Fz]at hp;done)|simp[Region.binds,Fz]at hp|clear hp
  go_simp
  refine HX.mono ?_
  rintro e w' ⟨rfl,hb⟩
  exact hK _ _ _ rfl (hF.o.trans (hb.mono hF.o.size)) (by first|rfl|(simp[Act.put,hp];done)|(simp[Act.put,hp];exact rfl))):Sq P ops Q a mk (fun _ _=>Below n w) G (o::os) i ps:=⟨_,h X,k⟩
theorem sqX(p:Value->Prop)(h:St P ops Q a mk R G i o ps p)(k:Sq P ops Q a mk R G os (i+1) (ps++[p])):Sq P ops Q a mk R G (o::os) i ps:=⟨_,h,k⟩
theorem dnB{b:Act}{F:World->Prop}(h:∀W,Hid (F W)->Q .normal b W)(e:∀u,Qbr ps 0 u->mk u=b:=by
  intro u h
  simp only[Qbr,List.nil_append,List.cons_append,Nat.zero_add,Nat.reduceAdd]at h
  simp only[h]
  exact rfl):Sq P ops Q a mk (fun _ _=>F) G [] i ps:=fun l u W hl hu hF=>by rw[e u hu];exact h W hF
end
end
def V9(w0:World)(cs:List Value)(la ls:Bool)(ua:Value)(W:World):Prop:=
 Below w0 w0 W/\(ls=true->la=true)/\(la=true->∃b,ua=.pointer (some ⟨b,0,none⟩)/\w0.heap.size<=b/\b<W.heap.size/\W.there b 0 cs.length/\(ls=true->W.rangeAt b 0 cs))
section
variable {w0 W W':World} {cs:List Value} {la ls:Bool} {ua:Value}
theorem V9.start{us:List Value}:V9 w0 us false false ua w0.drew:=⟨(Ar _ _).drew,by simp,by simp⟩
theorem V9.below(h:V9 w0 cs la ls ua W)(hb:Below W W W'):V9 w0 cs la ls ua W':=by
 refine⟨h.1.trans (hb.mono h.1.size),h.2.1,fun hl=>?_⟩;obtain⟨b,e,h1,h2,h3,h4⟩:=h.2.2 hl;exact⟨b,e,h1,a8 h2 hb.size,An h3 h2 hb,fun hs=>Ah (h4 hs) h2 hb⟩
theorem V9.alloc(h:V9 w0 cs false ls ua W)(zs:List Value)(hz:zs.length=cs.length)(T:TypeId):V9 w0 cs true ls W.heap.size (W.alloc (.cells zs.toArray T)):=by
 have hs:ls=false:=by cases hq:ls with|false=>rfl|true=>exact absurd (h.2.1 hq) aI
 subst hs;exact⟨h.1.alloc h.1.size _,by simp,fun _=>⟨_,rfl,h.1.size,by simp,by rw[<-hz];exact B9 W zs T,by simp⟩⟩
theorem V9.store(h:V9 w0 cs la ls ua W){b:Nat}(hl:la=true)(e:ua=b):V9 w0 cs la true ua (W.setCells b 0 cs):=by
 obtain⟨b',e',h1,h2,h3,_⟩:=h.2.2 hl;rw[e]at e';injection e' with e';injection e' with e';injection e' with e';subst e';exact⟨Ag _ h1 _ _ _ h.1,fun _=>hl,fun _=>⟨b,e,h1,by rw[Bw];exact h2,ag h3 _ _ _,fun _=>a7 _ _ _ _ h3⟩⟩
end
section
variable {P:Program} {ops:Array Oper} {Q:Exit->Act->World->Prop} {a:Act} {mk:(Nat->Value)->Act} {R:(Nat->Bool)->(Nat->Value)->World->Prop} {G:World->Prop} {o:Oper} {os:List Oper} {i:Nat} {ps:List (Value->Prop)} {v:Value}
theorem sqB{C:World->Prop}{n:Nat}{w:World}(hB:∀l u W,R l u W->Below n w W)(hst:∀l u W W',R l u W->Below W W W'->R l u W')(X:∀W,Below n w W->C W)(k:Sq P ops Q a mk R G os (i+1) (ps++[fun x=>x=v]))
  (h:(∀l u W,R l u W->Below n w W)->(∀l u W W',R l u W->Below W W W'->R l u W')->(∀W,Below n w W->C W)->St P ops Q a mk R G i o ps (fun x=>x=v):=by
  intro hB hst X l u W hl hp hF hG hi K hK;have HX:=X W (hB _ _ _ hF.o);first|unfold Gr at hG|skip
  first|(simp[Region.binds,Fz]at hp;done)|simp[Region.binds,Fz]at hp|clear hp
  clear hB;have Hst:=Aa hst;clear hst X;go_simp;refine HX.mono ?_;rintro e w' ⟨rfl,hb⟩;exact hK _ _ _ rfl (Hst.o _ _ _ _ hF.o hb) (by first|rfl|(simp[Act.put,hp];done)|(simp[Act.put,hp];exact rfl))):Sq P ops Q a mk R G (o::os) i ps:=⟨_,h hB hst X,k⟩
end
abbrev Bld(B b:Nat)(l:List UInt8)(w:World):Prop:=Lib.IsBuilder 209 5 B b (Ea l) w
abbrev Qbf(B b:Nat)(p:Value)(bs:List Value)(w:World):Prop:=Lib.BuilderAt 209 5 B b p bs w
theorem Tryz.sizeBuilder:(prog.info? 209).map (·.size)=some 2:=aJ
theorem Tryz.liesBuilder:liesAt prog prog.depth 209 (2 / prog.cellsOf 209) 0 209 1=true:=aJ
theorem Tryz.cellsByte:prog.cellsOf 5=1:=aJ
theorem Qb3(s:List UInt8):Lib.strCells ⟨s.toArray⟩=Ea s:=by simp[Lib.strCells,Ea]
theorem Vf(b:Nat)(w:World)(h0:w.cell? (b,0)=b):
  Calls prog 216 #[b] w fun e w'=>e=.returned (.tuple #[])/\w'=w:=by
 obtain⟨j,hj,_⟩:=Option.map_eq_some_iff.1 Tryz.sizeBuilder;go_enter func216,ntmps216;go_wp2
 rw[Lib.run_neq_ptr_same w _ underlying207 hj];go_wp2
 go_end0
 exact hH
theorem S8(b:Nat)(w:World)(h0:w.cell? (b,0)=some (.pointer none))(hsh:w.shape? b=some (209,2))(hfz:w.frozen? (b,0)=false):
  Calls prog 216 #[b] w fun e w'=>e=.returned (.tuple #[])/\w'=w.setCell ⟨b,0,none⟩ b:=by
 obtain⟨j,hj,hjs⟩:=Option.map_eq_some_iff.1 Tryz.sizeBuilder;go_enter func216,ntmps216;go_wp2
 rw[Lib.run_to_unsafe w ⟨b,0,none⟩ underlying207 underlying269 hj (by rw[hjs];decide) hsh (Nat.zero_lt_succ 1)];simp only[Result.andThen];rw[Oper.upon_value];go_wp2
 rw[run_callFunc_extern func242 aJ aJ aJ (e:=Extern.AbiNoEscape.same) aJ];rw[Lib.run_noEscape];simp only[Result.andThen];rw[Oper.upon_value];go_wp2
 rw[Lib.run_from_unsafe w ⟨b,0,none⟩ underlying269 underlying207 hj hsh Tryz.liesBuilder];simp only[Result.andThen];rw[Oper.upon_value];go_wp2
 go_end0
 exact hH
theorem Xz(B b:Nat)(bs:List Value)(w:World)(h:Lib.IsBuilder 209 5 B b bs w):
  Calls prog 216 #[b] w fun e w'=>e=.returned (.tuple #[])/\(Qbf B b b bs w'/\Below B w w'):=by
 rcases h with h|h
 ·refine(S8 b w h.cell0 h.shape h.frozen0).mono ?_;rintro e w' ⟨rfl,rfl⟩;exact⟨rfl,h.used _,(Ar B w).setCell (p:=⟨b,0,none⟩) h.1 _⟩
 refine(Vf b w h.cell0).mono ?_;rintro e w' ⟨rfl,rfl⟩;exact⟨rfl,h,Ar B _⟩
theorem Tj(B b:Nat)(l s:List UInt8)(w:World)(h:Bld B b l w)(hlen:l.length+s.length<=140737488355328)(hBw:B<=w.heap.size):
  Calls prog 162 #[b,s] w fun e w'=>e=.returned (.tuple #[.int .i64 s.length,.nilIface])/\Bld B b (l++s) w'/\Below B w w':=by
 obtain⟨i0,hi,hz0,hz1,hz2⟩:=info_parts Tryz.infoU8;go_enter func162,ntmps162;go_wp2_with fail;refine(Xz B b (Ea l) _ h).mono ?_;rintro e w1 ⟨rfl,h1,hb1⟩;obtain⟨hB,v,hbk,hown,hne⟩:=h1;have c0:w1.cell? (b,0)=b:=by rw[Lib.cell_of_heap hbk];rfl
 have c1:w1.cell? (b,1)=some v:=by rw[Lib.cell_of_heap hbk];rfl
 have hlB:(Ea l).length=l.length:=Mf l;have hsB:(ByteArray.mk s.toArray).size=s.length:=rfl;go_wp2_with (at_builtin;refine Lib.wpList_append_own_string _ rfl _ _ 22 9 rfl B 5 i0 underlying22 underlying9 hi hz0 hz1 hz2 _ _ _ rfl hown ⟨s.toArray⟩ rfl ?c3 ?c4 ?c5 ?_)
 case c3=>unfold maxLen;omega
 case c4=>omega
 case c5=>have:=hb1.size;omega
 intro v' w2 hown' hgrow _;have hlt:b<w1.heap.size:=by
  rcases aE b w1.heap.size with h'|h'
  ·exact h'
  simp[Array.getElem?_eq_none h']at hbk
 have hb2:w2.heap[b]?=some (.cells #[b,v] 209 (0,0)):=by
  rw[hgrow.block b hlt (fun e=>hne e.symm)];exact hbk
 have d0:w2.cell? (b,0)=b:=by rw[Lib.cell_of_heap hb2];rfl
 have d1:w2.cell? (b,1)=some v:=by rw[Lib.cell_of_heap hb2];rfl
 have f1:w2.frozen? (b,1)=false:=Lib.frozen_of_heap hb2 1;obtain⟨ao,n',cap,rfl⟩:∃ao n' cap,v'=.slice ao n' cap:=by
  rcases hown'.2 with⟨hv,_⟩|⟨g,cap,cur,hv,_⟩
  ·exact⟨_,_,_,hv⟩
  exact⟨_,_,_,hv⟩
 clear hlB hsB;go_wp2
 go_ret2;refine⟨rfl,.inr ?_,?_⟩
 ·have e1:Ea (l++s)=Ea l++Lib.strCells ⟨s.toArray⟩:=by rw[Qb3];simp[Ea]
  rw[e1];exact Lib.BuilderAt.put (T:=209) (e:=5) hB hb2 (bs':=Ea l++Lib.strCells ⟨s.toArray⟩) (by rw[af,Lib.strCells_length,Mf];exact hown') aI
 exact(hb1.grown hgrow (by have:=hb1.size;omega) (fun k hk=>(hown.lt k hk).1)).setCell (p:=⟨b,1,none⟩) hB _
theorem Qdx(W:World)(q:Option Addr):(Builtin.unsafeString_ #[250,3] 9 #[.pointer q,.int .i64 0]).run prog W=.ok (.string .empty) W:=
 Lib.run_unsafeString_none W _ _ _ q
theorem Zy(B b:Nat)(l:List UInt8)(w:World)(h:Bld B b l w)(h0:l≠[]):
  Calls prog 163 #[b] w fun e w'=>e=.returned l/\Below B w w':=by
 obtain⟨p,hB,v,hbk,hown,hne⟩:∃p,Qbf B b p (Ea l) w:=by
  rcases h with h|h
  ·exact⟨_,h⟩
  exact⟨_,h⟩
 have hl0:l.length≠0:=by simpa using h0
 rw[Mf]at hown;obtain⟨g,cap,cur,rfl,hbg,hg,hnc,hcm,hcs,htake⟩:∃g cap cur,v=.slice (some ⟨g,0,none⟩) l.length cap/\B<=g/\w.heap[g]?=some (.cells cur 5 (0,0))/\l.length<=cap/\cap<=maxLen/\cur.size=cap*1/\cur.toList.take (l.length*1)=Ea l:=by
  rcases hown.2 with⟨_,hz⟩|⟨g,cap,cur,hv,r⟩
  ·exact absurd hz hl0
  exact⟨g,cap,cur,hv,r⟩
 have c1:w.drew.cell? (b,1)=some (.slice (some ⟨g,0,none⟩) l.length cap):=by
  have:w.drew.heap[b]?=some (.cells #[p,.slice (some ⟨g,0,none⟩) l.length cap] 209 (0,0)):=hbk;exact iU
 have hSD:(Builtin.unsafeSliceData_ #[22] 250 #[.slice (some ⟨g,0,none⟩) l.length cap]).run prog w.drew=.ok (.pointer (some ⟨g,0,none⟩)) w.drew:=
  Lib.run_unsafeSliceData_row _ _ _ _ _ _ aF
 have hUS:(Builtin.unsafeString_ #[250,3] 9 #[.pointer (some ⟨g,0,none⟩),.int .i64 l.length]).run prog w.drew=.ok l (w.drew.freeze ⟨g,0,none⟩ l.length):=by
  refine Lib.run_unsafeString_row w.drew 250 3 9 5 underlying250 Tryz.cellsByte g cur.size dq l h0 aF (by unfold maxLen at hcm;omega) ?_;intro j x hx;have:=hown.cells (g:=g) rfl j (.int .u8 x.toNat) (by simp[Ea,hx]);exact this
 clear h hne hcm htake;go_enter func163,ntmps163;go_wp2
 go_region
 all_goals (go_wp2;go_ret;exact⟨rfl,Lib.below_freeze (Below.drew (Ar B w)) (p:=⟨g,0,none⟩) hbg _⟩)
theorem Qbe(B b:Nat)(p:Value)(w:World)(hbk:w.heap[b]?=some (.cells #[p,.slice none 0 0] 209 (0,0))):
  Calls prog 163 #[b] w fun e w'=>e=.returned a6/\Below B w w':=by
 have hUS:=Qdx;have c1:w.drew.cell? (b,1)=some (.slice none 0 0):=by
  have:w.drew.heap[b]?=some (.cells #[p,.slice none 0 0] 209 (0,0)):=hbk;exact iU
 have hSD:(Builtin.unsafeSliceData_ #[22] 250 #[.slice none 0 0]).run prog w.drew=.ok (.pointer none) w.drew:=rfl;go_enter func163,ntmps163;go_wp2
 go_region
 all_goals (go_wp2;go_ret;exact⟨rfl,Below.drew (Ar B w)⟩)
theorem Xc(B b g:Nat)(p:Value)(cur:Array Value)(w:World)(hBw:B<=w.heap.size)(hbk:w.heap[b]?=some (.cells #[p,.slice (g,0) 0 0] 209 (0,0)))(hg:w.heap[g]?=some (.cells cur 5 (0,0))):
  Calls prog 163 #[b] w fun e w'=>e=.returned a6/\Below B w w':=by
 have hUS:=Qdx;have hlt:b<w.heap.size:=by
  rcases aE b w.heap.size with h'|h'
  ·exact h'
  simp[Array.getElem?_eq_none h']at hbk
 have c1:w.drew.cell? (b,1)=some (.slice (g,0) 0 0):=by
  have:w.drew.heap[b]?=some (.cells #[p,.slice (g,0) 0 0] 209 (0,0)):=hbk;exact iU
 have hSD:(Builtin.unsafeSliceData_ #[22] 250 #[.slice (g,0) 0 0]).run prog w.drew=.ok w.drew.heap.size (w.drew.alloc (.view ⟨g,0,none⟩ 5)):=
  Lib.run_unsafeSliceData_zero w.drew _ _ 5 underlying250 ⟨g,0,none⟩ 0 (5,cur.size) dq
 have c2:(w.drew.alloc (.view ⟨g,0,none⟩ 5)).cell? (b,1)=some (.slice (g,0) 0 0):=by
  have:(w.drew.alloc (.view ⟨g,0,none⟩ 5)).heap[b]?=_:=(Lib.alloc_old w.drew _ b hlt).trans hbk;exact iU
 have c3:(w.alloc (.view ⟨g,0,none⟩ 5)).drew.cell? (b,1)=some (.slice (g,0) 0 0):=c2;have c0:w.cell? (b,1)=some (.slice (g,0) 0 0):=c1;go_enter func163,ntmps163;go_wp2
 go_region
 all_goals (go_wp2;go_ret;exact⟨rfl,(Below.drew (Ar B w)).alloc hBw _⟩)
theorem Ze(B b g cap:Nat)(p:Value)(w:World)(hc0:cap≠0)(hbk:w.heap[b]?=some (.cells #[p,.slice (g,0) 0 cap] 209 (0,0))):
  Calls prog 163 #[b] w fun e w'=>e=.returned a6/\Below B w w':=by
 have hUS:=Qdx;have c1:w.drew.cell? (b,1)=some (.slice (g,0) 0 cap):=by
  have:w.drew.heap[b]?=some (.cells #[p,.slice (g,0) 0 cap] 209 (0,0)):=hbk;exact iU
 have hSD:(Builtin.unsafeSliceData_ #[22] 250 #[.slice (g,0) 0 cap]).run prog w.drew=.ok g w.drew:=
  Lib.run_unsafeSliceData_row _ _ _ _ _ _ hc0
 clear hc0;go_enter func163,ntmps163;go_wp2
 go_region
 all_goals (go_wp2;go_ret;exact⟨rfl,Below.drew (Ar B w)⟩)
theorem Si(B b:Nat)(l:List UInt8)(w:World)(h:Bld B b l w)(hBw:B<=w.heap.size):
  Calls prog 163 #[b] w fun e w'=>e=.returned l/\Below B w w':=by
 cases l with
 |cons x r=>exact Zy B b (x::r) w h aH
 |nil=>
  obtain⟨p,hB,v,hbk,hown,hne⟩:∃p,Qbf B b p [] w:=by
   rcases h with h|h
   ·exact⟨_,h⟩
   exact⟨_,h⟩
  rcases hown.2 with⟨rfl,_⟩|⟨g,cap,cur,rfl,hbg,hg,_,_,_,_⟩
  ·exact Qbe B b p w hbk
  by_cases hc0:cap=0
  ·subst hc0;exact Xc B b g p cur w hBw hbk hg
  exact Ze B b g cap p w hc0 hbk
theorem Qim(w:World):Bld w.heap.size w.heap.size [] (w.alloc (.cells #[.pointer none,.slice none 0 0] 209)):=
 Lib.fresh_isBuilder 209 5 w
section
attribute [local go_sem] Qkr Qj4 Qig
theorem Sy(s p:List UInt8):(s.take p.length == p)=p.isPrefixOf s:=by
 rw[Bool.eq_iff_iff,beq_iff_eq,List.isPrefixOf_iff_prefix,List.prefix_iff_eq_take];exact eq_comm
theorem S4(s p:List UInt8)(h:¬p.length<=s.length):p.isPrefixOf s=false:=by
 rw[Bool.eq_false_iff,Ne,List.isPrefixOf_iff_prefix];intro hp;exact h hp.length_le
theorem Tp(s p:List UInt8)(w:World):
  Calls prog 209 #[s,p] w fun e w'=>e=.returned (.bool (p.isPrefixOf s))/\w=w':=by
 by_cases h:p.length<=s.length
 ·have HS:=Aa (Sy s p);go_enter func209,ntmps209;go_wp2
  go_ret;exact⟨by rw[<-HS.o];rfl,rfl⟩
 have HS:=Aa (S4 s p h);go_enter func209,ntmps209;go_wp2
 go_ret;exact⟨by rw[HS.o];rfl,rfl⟩
end
end Go.Proofs.YtgfmljfjgohdcaaGreatDoor
