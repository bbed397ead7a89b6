/- Texts joined. Conditions: as each theorem names them. -/
import Derived.Test.YtbdibdghphdcdaaGreatDoorJ34
import Derived.Test.YtbdibdghphdcdaaGreatDoorJ38
set_option maxRecDepth 100000
set_option maxHeartbeats 32000000
set_option linter.unusedVariables false
set_option linter.unusedSimpArgs false
namespace Go.Proofs.YtbdibdghphdcdaaGreatDoor
open Go.RowKit Go.Proofs.Tryz
theorem Qbm{s1 d1 s2 d2 x:List UInt8}{r:Vl × Bool}(h:Fz (At s1 d1) (At s2 d2) x=some r):∃S a T b v R,At s1 d1=some (S,a)/\At s2 d2=some (T,b)/\H8 S T a b=true/\Y6 S T R/\Qz R a b /\
  Gy S/\Cq a/\Gy T/\Cq b/\Jf T 12 b v/\Bc v=x/\x.length<=400/\r=Dj S 12 a v/\Jf S 12 a r.1/\LOk v r:=by
 cases h1:At s1 d1 with
 |none=>rw[h1]at h;cases h
 |some y1=>
  cases h2:At s2 d2 with
  |none=>rw[h1,h2]at h;cases h
  |some y2=>
   obtain⟨S,a⟩:=y1;obtain⟨T,b⟩:=y2;rw[h1,h2]at h;have h':(if H8 S T a b=true then(Gd T b x).map (Dj S 12 a)else none)=some r:=h;by_cases hr:H8 S T a b=true
   ·rw[if_pos hr]at h';obtain⟨g1,_,_,g2,_⟩:=Cs h1;obtain⟨g3,_,_,g4,_⟩:=Cs h2;cases hv:Gd T b x with
    |none=>rw[hv]at h';cases h'
    |some v=>
     rw[hv]at h';injection h' with h';obtain⟨v1,v2,v3⟩:=(Eb g3.1.1 g4).1 hv;obtain⟨R,hR,hk⟩:=Mt g1.1.2.1 g3.1.2.1 hr;obtain⟨i1,i2⟩:=Sk hR 12 a b v hk v1;subst h';exact⟨S,a,T,b,v,R,rfl,rfl,hr,hR,hk,g1,g2,g3,g4,v1,v2,v3,rfl,i1,i2⟩
   rw[if_neg hr]at h';cases h'
theorem LOk.eq{v:Vl}{r:Vl × Bool}(h:LOk v r)(e:Bc r.1=Bc v):r.1=v:=by
 cases hr:r.2 with
 |false=>exact h.1 hr
 |true=>have:=h.2 hr;rw[e]at this;omega
def atL(vs:List Fw)(n:Int):Option Fw:=if N4 vs=true/\1<=n/\n<=(vs.length:Int)then some (Cf vs (n - 1).toNat)else none
theorem Qh5{vs:List Fw}{n:Int}(h:N4 vs=false):atL vs n=none:=if_neg (by rw[h];simp)
theorem Qhm{vs:List Fw}{n:Int}(h:¬(1<=n/\n<=(vs.length:Int))):atL vs n=none:=if_neg fun g=>h g.2
theorem Qkg{vs:List Fw}{k:Nat}(hr:N4 vs=true)(hk:k<vs.length):atL vs ((k:Int)+1)=some (Cf vs k):=by
 unfold atL;rw[if_pos ⟨hr,by omega,by omega⟩];congr 2
 omega
theorem Ze{vs:List Fw}{n:Int}{v:Fw}(h:atL vs n=some v):N4 vs=true/\∃k:Nat,n=(k:Int)+1/\k<vs.length/\v=Cf vs k:=by
 unfold atL at h;split at h
 ·rename_i hc;injection h with h;exact⟨hc.1,(n - 1).toNat,by omega,by omega,h.symm⟩
 cases h
def goP:Fw->List Fw->List UInt8->Option (List UInt8)
 |_,[],s=>some s
 |v,x::xs,s=>match Fz (At x.1 x.2) (At v.1 v.2) s with
  |some r=>goP x xs (Bc r.1)
  |none=>none
def J2(vs:List Fw)(n:Int)(s:List UInt8):Option (List UInt8):=match atL vs n with
 |none=>none
 |some v=>if (No (At v.1 v.2) s).isSome=true then goP v (vs.drop n.toNat) s else none
def goN(o:Option (Vl × Bool))(x:Fw)(xs:List Fw):Option (List UInt8):=match o with
 |some r=>goP x xs (Bc r.1)
 |none=>none
theorem Qfj{v:Fw}{vs:List Fw}{k:Nat}{s:List UInt8}(hk:k<vs.length):goP v (vs.drop k) s=goN (Fz (At (Cf vs k).1 (Cf vs k).2) (At v.1 v.2) s) (Cf vs k) (vs.drop (k+1)):=by
 rw[show vs.drop k=Cf vs k::vs.drop (k+1)by rw[List.drop_eq_getElem_cons hk,Eg hk]];rfl
theorem Qcn{v:Fw}{vs:List Fw}{k:Nat}{s:List UInt8}(hk:vs.length<=k):goP v (vs.drop k) s=some s:=by rw[List.drop_eq_nil_of_le hk];rfl
theorem V7{s1 d1 s2 d2 x:List UInt8}{r:Vl × Bool}(h:Fz (At s1 d1) (At s2 d2) x=some r):(Bc r.1).length<=400:=by
 cases h1:At s1 d1 with
 |none=>rw[h1]at h;cases h
 |some y1=>
  cases h2:At s2 d2 with
  |none=>rw[h1,h2]at h;cases h
  |some y2=>
   obtain⟨S,a⟩:=y1;obtain⟨T,b⟩:=y2;rw[h1,h2]at h;have h:(if H8 S T a b=true then(Gd T b x).map (Dj S 12 a)else none)=some r:=h;split at h
   ·rename_i he;cases hv:Gd T b x with
    |none=>rw[hv]at h;cases h
    |some v=>
     rw[hv]at h;injection h with h;subst h;obtain⟨R,hR,hK⟩:=Mt (Cs h1).1.1.2.1 (Cs h2).1.1.2.1 he;obtain⟨g1,g2,g3⟩:=(Eb (Cs h2).1.1.1 (Cs h2).2.2.2.1).1 hv;exact ad (Sk hR 12 a b v hK g1).2.le (by rw[g2];exact g3)
   cases h
theorem Zy{w:World}{b o c q:Nat}{cs:List Value}{u:Value}(h:w.cell? ⟨c,q,none⟩=some u)(hne:c≠b):(w.setCells b o cs).cell? ⟨c,q,none⟩=some u:=by
 have hr:w.rangeAt c q [u]:=fun j v hv=>by
  cases j with
  |zero=>injection hv with hv;subst hv;exact h
  |succ j=>simp at hv
 have:=Ab (ak hr b o cs (.inl hne)) 0 rfl;simpa using this
def Kk(vs:List Fw)(n:Int)(w:World)(e:Ending)(w':World):Prop:=∃a b:ByteArray,e=.returned (.tuple #[.agg #[.string a,.string b],.bool (atL vs n).isSome])/\(∀v,atL vs n=some v->a=⟨v.1.toArray⟩/\b=⟨v.2.toArray⟩)/\Below w w w'
theorem Kk.no{vs:List Fw}{n:Int}{w w':World}{e:Ending}(h:atL vs n=none){a b:ByteArray}(he:e=.returned (.tuple #[.agg #[.string a,.string b],.bool false]))(hb:Below w w w'):Kk vs n w e w':=
 ⟨a,b,by rw[h];exact he,fun v hv=>(by rw[h]at hv;cases hv),hb⟩
theorem Kk.yes{vs:List Fw}{n:Int}{w w':World}{e:Ending}{v:Fw}(h:atL vs n=some v)(he:e=.returned (.tuple #[.agg #[v.1,v.2],.bool true]))(hb:Below w w w'):Kk vs n w e w':=
 ⟨_,_,by rw[h];exact he,fun v' hv=>(by rw[h]at hv;injection hv with hv;subst hv;exact⟨rfl,rfl⟩),hb⟩
def Qhi(o:Option (List UInt8))(w:World)(e:Ending)(w':World):Prop:=e=.returned (.tuple #[.string ⟨(o.getD []).toArray⟩,.bool o.isSome])/\Below w w w'
def Qb7:Fw->List Fw->Fw
 |v,[]=>v
 |_,x::xs=>Qb7 x xs
theorem Qca:∀(xs:List Fw) (v:Fw) (s t:List UInt8) (u:Vl),No (At v.1 v.2) s=some u->goP v xs s=some t->∃z,No (At (Qb7 v xs).1 (Qb7 v xs).2) t=some z/\t.length<=s.length/\(t.length=s.length->z=u/\t=s)
 |[],v,s,t,u,hu,h=>by
  injection h with h;subst h;exact⟨u,hu,An _,fun _=>⟨rfl,rfl⟩⟩
 |x::xs,v,s,t,u,hu,h=>by
  cases hl:Fz (At x.1 x.2) (At v.1 v.2) s with
  |none=>unfold goP at h;rw[hl]at h;cases h
  |some r=>
   unfold goP at h;rw[hl]at h;have hlen:=V7 hl;obtain⟨S,a,T,b,w,R,e1,e2,hr,hR,hk,g1,g2,g3,g4,v1,v2,v3,er,i1,i2⟩:=Qbm hl;have hw:w=u:=by
    rw[e2]at hu;have hu':Gd T b s=some u:=hu;exact Qc4 g3.1.1 v1 ((Eb g3.1.1 g4).1 hu').1 (v2.trans ((Eb g3.1.1 g4).1 hu').2.1.symm)
   subst hw;have k1:No (At x.1 x.2) (Bc r.1)=some r.1:=by rw[e1];exact(Eb g1.1.1 g2).2 ⟨i1,rfl,hlen⟩
   obtain⟨z,z1,z2,z3⟩:=Qca xs x (Bc r.1) t r.1 k1 h;have hle:=i2.le;rw[v2]at hle;refine⟨z,z1,ad z2 hle,fun e=>?_⟩;obtain⟨z4,z5⟩:=z3 aH;have hr2:r.1=w:=by
    cases h2:r.2 with
    |false=>exact i2.1 h2
    |true=>have:=i2.2 h2;rw[v2]at this;rw[z5]at e;omega
   exact⟨z4.trans hr2,by rw[z5,hr2,v2]⟩
theorem Qf6{xs:List Fw}{v:Fw}{s t:List UInt8}{u:Vl}{r:Vl × Bool}(hu:No (At v.1 v.2) s=some u)(h:goP v xs s=some t)(hl:Fz (At (Qb7 v xs).1 (Qb7 v xs).2) (At v.1 v.2) s=some r):t=Bc r.1\/t≠s:=by
 by_cases hts:t=s
 ·left;obtain⟨z,z1,_,z3⟩:=Qca xs v s t u hu h;obtain⟨rfl,_⟩:=z3 (by rw[hts]);obtain⟨S,a,T,b,w,R,e1,e2,hr,hR,hk,g1,g2,g3,g4,v1,v2,v3,er,i1,i2⟩:=Qbm hl;have hu':Gd T b s=some z:=by rw[e2]at hu;exact hu
  have hz':Gd S a t=some z:=by rw[e1]at z1;exact z1
  have hw:w=z:=Qc4 g3.1.1 v1 ((Eb g3.1.1 g4).1 hu').1 (v2.trans ((Eb g3.1.1 g4).1 hu').2.1.symm);rw[er,hw,Qlt 12 a z ((Eb g1.1.1 g2).1 hz').1];exact((Eb g1.1.1 g2).1 hz').2.1.symm
 exact .inr hts
theorem Zd{vs:List Fw}:∀(m k:Nat),vs.length=k+1+m->Qb7 (Cf vs k) (vs.drop (k+1))=Cf vs (vs.length - 1)
 |0,k,h=>by
  rw[List.drop_eq_nil_of_le aH,show vs.length - 1=k by omega];rfl
 |m+1,k,h=>by
  have hk:k+1<vs.length:=aH;have e:=Zd (vs:=vs) m (k+1) aH;rw[List.drop_eq_getElem_cons hk,<-Eg hk];exact e
theorem Qkv{vs:List Fw}{n:Int}{t r:List UInt8}(h:J2 vs n t=some r):∃(k:Nat) (q:Vl × Bool),n=(k:Int)+1/\k<vs.length/\t.length<=400/\r.length<=400 /\
  Fz (At (Cf vs (vs.length - 1)).1 (Cf vs (vs.length - 1)).2) (At (Cf vs k).1 (Cf vs k).2) t=some q/\(No (At (Cf vs (vs.length - 1)).1 (Cf vs (vs.length - 1)).2) r).isSome=true/\(r=Bc q.1\/r≠t):=by
 unfold J2 at h;cases ha:atL vs n with
 |none=>rw[ha]at h;cases h
 |some v=>
  rw[ha]at h;obtain⟨hreg,k,rfl,hk,rfl⟩:=Ze ha;simp only at h;by_cases hv:(No (At (Cf vs k).1 (Cf vs k).2) t).isSome=true
  ·rw[if_pos hv]at h;obtain⟨u,hu⟩:=Option.isSome_iff_exists.1 hv;have hk1:((k:Int)+1).toNat=k+1:=aH;rw[hk1]at h;have hlast:=Zd (vs:=vs) (vs.length - k - 1) k aH;obtain⟨z,z1,z2,z3⟩:=Qca _ _ _ _ u hu h;rw[hlast]at z1;obtain⟨T,b,e2,g3,g4,_,_,v1,v2,v3⟩:=Qbu hu;have hrd:=(M6.1 hreg).2 (vs.length - 1) aH k aH;obtain⟨S,a,e1,_⟩:=Qbu z1;have hl:Fz (At (Cf vs (vs.length - 1)).1 (Cf vs (vs.length - 1)).2) (At (Cf vs k).1 (Cf vs k).2) t=some (Dj S 12 a u):=Z4 e1 e2 hrd (by rw[e2]at hu;exact hu);refine⟨k,_,rfl,hk,v3,by omega,hl,by rw[z1];rfl,?_⟩;refine Qf6 hu h ?_;rw[hlast];exact hl
  rw[if_neg hv]at h;cases h
section
attribute [local go_sem] Qo7 Qok Qoa Ql9 ByteArray.mk_append_mk
theorem Qgp(v:Value)(vs:List Fw)(w:World)(h:Gz w v vs)(hn:vs.length<=1048577)(hl:∀x∈vs,x.1.length<=4000000/\x.2.length<=4000000):
  Calls prog 25 #[.agg #[v]] w fun e w'=>e=.returned (.bool (N4 vs))/\Below w w w':=by
 obtain⟨A,c,rfl,hcap,hvm,hr⟩:=h;have Hr:=Aa hr;have Hl:=Aa hl;clear hr hl;go_enter func25,ntmps25;by_cases h5:vs.length<=5
 ·have h5i:(vs.length:Int)<=5:=aH;have h5j:¬(5:Int)<(vs.length:Int):=aH;have H5:=Aa h5;go_wp2_with fail;go_loopw [17] (fun q wr=>∃k:Nat,q=.int .i64 k/\k<=vs.length/\Hid (∀i',i'<k->∀k',k'<=i'->rdV (Cf vs i') (Cf vs k')=true)/\Hid (Below w w wr)/\w.heap.size<wr.heap.size/\wr.cell? (w,0)=some (.slice A vs.length c)) (fun q _=>vs.length - (intOf q).toNat)
  case atStart=>exact⟨0,rfl,ag _,fun i' hi'=>by omega,(Ap _ _).alloc (An _) _,by simp,by simp⟩
  case round=>
   obtain⟨i,rfl,hi,hin,hb,hsz,hc0⟩:=hrel;have i1:(0:Int)<=(i:Int):=aH;by_cases hlt:i<vs.length
   ·have i2:(i:Int)<(vs.length:Int):=aH;obtain⟨b1,o1,rfl,hbl1,x0,x1⟩:=Gz.at_ (Hr.o.below hb.o) hlt;have hxl:=Hl.o _ (ae hlt);have Hxv:=@Aa (Cf vs i=vs[i]) (Eg hlt);generalize vs[i]=x at x0 x1 hxl Hxv;have Hbo:=Aa (fun W=>Sl x.1 x.2 W hxl.1 hxl.2);have Hev:=Aa (fun(y:Fw) (hy:y∈vs) W=>Qex x.1 x.2 y.1 y.2 W hxl.1 hxl.2 (Hl.o y hy).1 (Hl.o y hy).2);have Hsz:=Aa hsz;have Hc0:=Aa hc0;clear hxl hc0;have hc0:=Hc0.o;go_wp2_with fail;refine(Hbo.o _).mono ?_;rintro e w3 hp;obtain⟨qq,a1,b2,c2,rfl,hb3,_⟩:=hp.form;have hwz:wr.heap.size<w3.heap.size:=gV;have y0:w3.cell? (wr,0)=x.1:=(hb3.cell (p:=⟨wr.heap.size,0,none⟩) aK).trans aK;have y1:w3.cell? (wr,1)=x.2:=(hb3.cell (p:=⟨wr.heap.size,1,none⟩) aK).trans aK;have Hb3:=@Aa (Below wr wr w3) (((Ap _ _).alloc (An _) _).trans (hb3.mono aK));have Y0:=Aa y0;have Y1:=Aa y1;have C0:=Aa ((Hb3.o.cell (p:=⟨w.heap.size,0,none⟩) Hsz.o).trans Hc0.o);have Hbw:=Aa (hb.o.trans (Hb3.o.mono hb.o.size));have Hself:=Aa (fun(hs:(At x.1 x.2).isSome=true)=>Qko (v:=x) hs);have Hnone:=Aa (fun(hs:(At x.1 x.2).isSome=false)=>Qnw (v:=x) (Cf vs i) hs);generalize (At x.1 x.2).isSome=ok at *;clear hp hb3 x0 x1 y0 y1 hc0;cases ok with
    |false=>
     have Hno:=Aa (Qaa hlt (An _) (by rw[Hxv.o]at *;exact Hnone.o rfl));go_wp2_with fail;go_ret;exact⟨by rw[Hno.o];rfl,Hbw.o.alloc Hbw.o.size _⟩
    |true=>
     have Hs:=Aa (Hself.o rfl);have c0':=C0.o;have hzo:w.heap.size<w3.heap.size:=aH;have hicap:(i:Int)<=(c:Int):=aH;go_wp2_with fail;obtain⟨W5,hW5⟩:∃W5,W5=w3.alloc (.cells #[.string a1,.string b2,.string c2] 50):=⟨_,rfl⟩
     rw[<-hW5];have hb5:Below w3 w3 W5:=dh;have hz5:w3.heap.size<W5.heap.size:=d7;have Hbw5:=Aa (Hbw.o.trans (hb5.mono Hbw.o.size));have Z0:=Aa ((hb5.cell (p:=⟨wr.heap.size,0,none⟩) hwz).trans Y0.o);have Z1:=Aa ((hb5.cell (p:=⟨wr.heap.size,1,none⟩) hwz).trans Y1.o);have D0:=Aa ((hb5.cell (p:=⟨w.heap.size,0,none⟩) hzo).trans C0.o);obtain⟨wo,hwo⟩:∃wo:Nat,wo=wr.heap.size:=⟨_,rfl⟩
     rw[<-hwo]at Z0 Z1 hwz ⊢;clear hW5 hb5 c0' Y0 Y1 C0 hwo;go_loopw [38] (fun q wr=>∃k:Nat,q=.int .i64 k/\k<=i/\Hid (∀k',k'<k->rdV (Cf vs i) (Cf vs k')=true)/\Hid (Below W5 W5 wr)) (fun q _=>i - (intOf q).toNat)
     case atStart=>exact⟨0,rfl,ag _,fun k' hk'=>by omega,Ap _ _⟩
     case round=>
      obtain⟨k,rfl,hk,hkin,hb'⟩:=hrel;have k1:(0:Int)<=(k:Int):=aH;have z0:wr.cell? (wo,0)=x.1:=(hb'.out.cell (p:=⟨wo,0,none⟩) (show wo<W5.heap.size by omega)).trans Z0.o;have z1:wr.cell? (wo,1)=x.2:=(hb'.out.cell (p:=⟨wo,1,none⟩) (show wo<W5.heap.size by omega)).trans Z1.o;have Hbk:=Aa (Hbw5.o.trans (hb'.out.mono Hbw5.o.size));have hz':wo<wr.heap.size:=by have:=hb'.out.size;omega
      have hzn:¬(wo=wr.heap.size):=aH;by_cases hkl:k<i
      ·have k2:(k:Int)<(i:Int):=aH;obtain⟨b1',o1',e1,hbl',y0,y1⟩:=Gz.at_ (Hr.o.below Hbk.o) (show k<vs.length by omega);obtain⟨rfl,rfl⟩:b1=b1'/\o1=o1':=fq;have hym:=ae (show k<vs.length by omega);have Hyv:=@Aa (Cf vs k=vs[k]' aH) (Eg aH);generalize vs[k]'(show k<vs.length by omega)=y at y0 y1 hym Hyv;have Hcall:=Aa (Hev.o y hym);have Hrd:Hid (rdV x y=Ef (At x.1 x.2) (At y.1 y.2)):=rfl;generalize Ef (At x.1 x.2) (At y.1 y.2)=r at Hcall Hrd;clear hym e1;go_wp2_with fail;refine(Hcall.o _).mono ?_;rintro e w9 ⟨rfl,hb9⟩;have Hb9:=@Aa (Below wr wr w9) (((Ap _ _).alloc (An _) _).trans (hb9.mono aK));have Hbz:=Aa (hb'.out.trans (Hb9.o.mono hb'.out.size));have Hbv:=Aa (Hbk.o.trans (Hb9.o.mono Hbk.o.size));clear hb9 y0 y1 z0 z1;cases r with
       |false=>
        have Hno:=Aa (Qaa hlt (Nat.le_of_lt hkl) (by rw[Hxv.o,Hyv.o];exact Hrd.o));go_wp2_with fail;go_ret;exact⟨by rw[Hno.o];rfl,Hbv.o⟩
       |true=>
        have Hall:=Aa (show ∀k',k'<k+1->rdV (Cf vs i) (Cf vs k')=true from fun k' hk'=>by
         rcases aG k' k with h|h
         ·exact hkin.o k' h
         obtain rfl:k'=k:=aH;rw[Hxv.o,Hyv.o];exact Hrd.o)
        go_wp2_with fail;go_roundw
        case rel=>exact⟨k+1,by go_num,by omega,Hall.o,Hbz.o⟩
        case measure=>simp[intOf];omega
      ·have k2:¬(k:Int)<(i:Int):=aH
       have Hall:=Aa (show ∀i',i'<i+1->∀k',k'<=i'->rdV (Cf vs i') (Cf vs k')=true from fun i' hi' k' hk'=>by
        rcases aG i' i with h|h
        ·exact hin.o i' h k' hk'
        obtain rfl:i'=i:=aH;rcases aG k' i' with h2|h2
        ·exact hkin.o k' aH
        obtain rfl:k'=i':=aH;rw[Hxv.o];exact Hs.o)
       have d0:=Aa ((hb'.out.cell (p:=⟨w.heap.size,0,none⟩) (show w.heap.size<W5.heap.size by omega)).trans D0.o);clear z0 z1;go_wp2_with fail;go_roundw
       case rel=>exact⟨i+1,by go_num,by omega,Hall.o,Hbk.o,by have:=hb'.out.size;omega,d0.o⟩
       case measure=>simp[intOf];omega
   ·obtain rfl:i=vs.length:=aH;have Hfin:=Aa (M6.2 ⟨H5.o,hin.o⟩);go_wp2_with fail;go_ret;exact⟨by rw[Hfin.o];rfl,hb.o⟩
 have h5i:(5:Int)<(vs.length:Int):=aH;have Hno:=@Aa (N4 vs=false) (by rw[Bool.eq_false_iff];exact fun h=>h5 (M6.1 h).1);go_wp2_with fail;go_ret;exact⟨by rw[Hno.o];rfl,(Ap _ _).alloc (An _) _⟩
theorem Po{p:List UInt8}:∀{l:List (List UInt8)},p∈l->p.length+1<=Dq l
 |x::xs,h=>by
  rw[El];rcases aA.1 h with rfl|h
  ·omega
  have:=Po h;omega
theorem Qbp{S:List Ty}(hS:∀t∈S,Ft t):∀(d:Nat) (k:Kd) (v:Vl),Jf S d k v->(Bc v).length<=900000->Bd v:=by
 intro d;induction d with
 |zero=>intro k v h;cases h
 |succ d ih=>
  intro k v h hl;cases h with
  |@n _ _ m hs hb h=>exact .mk aH dU (by simp[Bc,Ed,Jg]at hl;omega) aK
  |@t _ _ s hs hb h=>exact .mk aH dU (by simp[Bc,Ed,Jg]at hl;omega) aK
  |@f _ _ x hs hb=>exact .mk aH dU (by cases x<;>decide) aK
  |@lst _ _ r ks hs hl2 h=>
   rw[Jt]at hl;simp only[List.length_cons,ah,Bz,List.length_nil]at hl;exact .mk aH aH aK fun x hx=>ih _ x (h x hx) (by have:=Po (ap (f:=Bc) hx);omega)
  |@non _ _ r hs=>exact .mk aH dU aK aK
  |@som _ _ r x hs h=>
   have hx:(Bc x).length<=900000:=by simp[Bc,Ed,Jg,Aw]at hl;omega
   exact .mk aH fg aK fun y hy=>gE
  |@enm _ _ t f hs hb ht h9 hf=>exact .mk (by have:=((hS t (Cp ht).1).2.2.1.1 f (Ax hf).2).2.1;omega) dU aK aK
  |@uni _ _ t f x hs hb ht h5 hf h=>
   have hx:(Bc x).length<=900000:=by simp[Bc,Ed,Jg,Aw]at hl;omega
   exact .mk (by have:=(Nl hS ht dS (Ax hf).2).2;omega) fg aK fun y hy=>gE
  |@rcd _ _ t fs hs hb ht h2 hf h hn hp=>
   rw[Mu]at hl;simp only[List.length_cons,ah,Bz,List.length_nil]at hl;refine .mk aH (by rw[List.map_map];show Dq (fs.map fun p=>Bc (Dr p))<=_;omega) aK fun y hy=>?_;obtain⟨p,hp',rfl⟩:=ax.1 hy;have h3:=Po (ap (f:=fun p=>Bc (Dr p)) hp');simp only[Jv]at h3;have h4:=(Nl hS ht da (Ax (hf p hp')).2).2;exact .mk aH fg aK fun y hy=>by rw[aq]at hy;subst hy;exact ih _ _ (h p hp') aH
end
end Go.Proofs.YtbdibdghphdcdaaGreatDoor
