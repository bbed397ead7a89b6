/- Texts joined. Conditions: as each theorem names them. -/
import Derived.Deep.CutRange
import Derived.Deep.DeepCutAuto
import Derived.Laws.Append
import Derived.Maps.OwnSet
import Derived.Maps.OwnOps
import Derived.StringKeys
import Derived.Shelf.Strings.SlTrimAscii
import Derived.Shelf.Strings.Prefix
import Derived.Shelf.Strings.Search3
import Derived.Shelf.Strings.Count
import Derived.Shelf.Strings.OnBuilder
import Derived.Shelf.SlicesE.Clone
import Derived.Test.YtmmhmlmfhpfgbaaGreatDoorProg
import Derived.Lib.IndexLaws
import Derived.Deep.MidRow
import Derived.Deep.AppendLies
import Derived.Test.YtmmhmlmfhpfgbaaGreatDoorF14
set_option maxRecDepth 100000
set_option maxHeartbeats 32000000
set_option linter.unusedVariables false
set_option linter.unusedSimpArgs false
namespace Go.Proofs.YtmmhmlmfhpfgbaaGreatDoor
open Go.RowKit Go.Proofs.Tryz
section
attribute [local go_sem] Qoe Qnf Qmu Qk2 ByteArray.mk_append_mk
theorem Qan(s:List UInt8)(w:World)(hs:s.length<=4000000):
  Calls prog 132 #[s] w fun e w'=>e=.returned (.bool (B9 s).isSome)/\Below w w w':=by
 have H:=Aa (fun W=>To s W hs);generalize B9 s=o at *;go_enter func132,ntmps132;go_wp2_with fail;refine(H.o _).mono ?_;rintro e w1 ⟨hc,hb⟩;have Hb:=Aa hb;clear hb;cases o with
 |none=>
  obtain⟨A,n,c,rfl⟩:=hc;go_wp2_with fail;go_ret;exact⟨rfl,Hb.o⟩
 |some S=>
  obtain⟨v,xs,rfl,_,_⟩:=hc;go_wp2_with fail;go_ret;exact⟨rfl,Hb.o⟩
def Qcd:List (List UInt8):=[[82],[85],[85],[69]]
def Xz:List (List UInt8):=[[82],[69],[85]]
def Zz:List (List UInt8):=[[],[44],[58],[49],[10]]
def Zp:List (List UInt8):=[[64,97,59],[64,97,59],[64,97,59],[64,98,59],[64,99,59],[91,110],[63,64,97,59],[110],[116],[91,64,98,59],[63,91,102]]
def Qcr:List UInt8:=[82,97,61,49,58,112,58,110,61,53,44,50,58,113,58,91,116,44,52,58,114,58,63,64,97,59,44,53,58,115,58,64,98,59,10,85,98,61,49,58,112,58,110,44,51,58,113,58,64,97,59,10,69,99,61,49,58,112,44,50,58,113,10]
def DSc(l:List UInt8):Prop:=l.length<=270/\Zv l
def Xv(l:List UInt8):Prop:=l.length<=264/\1<=l.length/\∃st,mach (0,0) l=some st
theorem Xv.three{a b c:List UInt8}(ha:Fm a/\a.length<=88/\1<=a.length)(hb:Fm b/\b.length<=88/\1<=b.length)(hc:Fm c/\c.length<=88/\1<=c.length):Xv (a++b++c):=by
 obtain⟨u,e,_⟩:=((ha.1.app hb.1).app hc.1) 0 aH;exact⟨by simp only[ah];omega,by simp only[ah];omega,_,e⟩
theorem Xv.plain:Xv Qcr:=⟨by decide,by decide,(0,0),by decide⟩
theorem Xv.o{l:List UInt8}(h:Xv l):DSc l:=⟨by have:=h.1;omega,by obtain⟨_,_,st,e⟩:=h;exact Zv.of_mach e⟩
theorem Xv.turned{l i:List UInt8}{k:Nat}(h:Xv l)(hk:k<l.length)(hi:i∈Zz):DSc (l.take k++(i++l.drop (k+1))):=by
 obtain⟨h1,_,s,e⟩:=h;have hil:i.length<=1:=(show ∀i∈Zz,i.length<=1 by decide) i hi;refine⟨by simp only[ah,List.length_take,List.length_drop];omega,?_⟩;have e2:l=l.take k++l[k]::l.drop (k+1):=by
  rw[List.getElem_cons_drop,List.take_append_drop]
 rw[e2]at e;refine Zv.turned e i ?_;have:i=[]\/i=[44]\/i=[58]\/i=[49]\/i=[10]:=by simpa [Zz]using hi
 rcases this with rfl|rfl|rfl|rfl|rfl
 ·exact .inl rfl
 ·exact .inr ⟨44,rfl,by decide,by decide⟩
 ·exact .inr ⟨58,rfl,by decide,by decide⟩
 ·exact .inr ⟨49,rfl,by decide,by decide⟩
 exact .inr ⟨10,rfl,by decide,by decide⟩
theorem Qg1{s:List UInt8}(h:s∈Qcd\/s∈Xz):∃c:UInt8,s=[c]/\(c=82\/c=85\/c=69):=by
 have hd:(∀s∈Qcd,s=[82]\/s=[85]\/s=[69])/\(∀s∈Xz,s=[82]\/s=[85]\/s=[69]):=aJ;have:s=[82]\/s=[85]\/s=[69]:=h.elim (hd.1 s) (hd.2 s);rcases this with rfl|rfl|rfl
 ·exact⟨82,rfl,.inl rfl⟩
 ·exact⟨85,rfl,.inr (.inl rfl)⟩
 exact⟨69,rfl,.inr (.inr rfl)⟩
theorem Nr(g p:Nat)(w:World)(h:Fg w g p)(hp:p<=1000000):
  Calls prog 77 #[g] w (Tv DSc w g p 170):=by
 have hgl:=h.lt;have HR:=Aa h;clear h;go_enter func77,ntmps77;go_wp2_with fail;refine(Qh g p 82 97 _ HR.o aH (.inl rfl) aJ).mono ?_;rintro e w1 ⟨l1,q1,rfl,hl1,hq1,hR1,hg1⟩;have hg1l:=hR1.lt;have HR1:=Aa hR1;have Hg1:=Aa hg1;have Hl1:=Aa hl1;have l1l:=hl1.2.1;clear hR1 hg1 hl1 HR;go_wp2_with fail;refine(Bs g q1 4 _ (HR1.o.dalloc _) aH aH aH).mono ?_;rintro e w2 ⟨x,rfl,hx1,_,hR2,hg2⟩;have hx:x<Qcd.length:=by show x<4;omega
 obtain⟨s2,hsm,hcell⟩:=((J1.new w1 Qcd).grown hg2 aH).cell hx;obtain⟨c2,rfl,hc2⟩:=Qg1 (.inl hsm);have i1:(0:Int)<=(x:Int):=aH;have i2:(x:Int)<4:=aH;have HR2:=Aa hR2;have Hg2:=Aa (Ae Hg1.o (Ae (World.grownBy_alloc w1 _ (some g)) hg2));have Hc2:=Aa hc2;clear hR2 hg2 hsm hc2 HR1 Hg1;go_wp2_with fail;refine(Qh g (q1+1) c2 98 _ HR2.o aH Hc2.o aJ).mono ?_;rintro e w3 ⟨l3,q3,rfl,hl3,hq3,hR3,hg3⟩;have hg3l:=hR3.lt;have HR3:=Aa hR3;have Hg3:=Aa (Ae Hg2.o hg3);have Hl3:=Aa hl3;have l3l:=hl3.2.1;clear hR3 hg3 hl3 HR2 Hg2 hcell;go_wp2_with fail;refine(Bs g q3 3 _ (HR3.o.dalloc _) aH aH aH).mono ?_;rintro e w4 ⟨y,rfl,hy1,_,hR4,hg4⟩;have hy:y<Xz.length:=by show y<3;omega
 obtain⟨s4,hsm,hcell⟩:=((J1.new w3 Xz).grown hg4 aH).cell hy;obtain⟨c4,rfl,hc4⟩:=Qg1 (.inr hsm);have j1:(0:Int)<=(y:Int):=aH;have j2:(y:Int)<3:=aH;have HR4:=Aa hR4;have Hg4:=Aa (Ae Hg3.o (Ae (World.grownBy_alloc w3 _ (some g)) hg4));have Hc4:=Aa hc4;clear hR4 hg4 hsm hc4 HR3 Hg3;go_wp2_with fail;refine(Qh g (q3+1) c4 99 _ HR4.o aH Hc4.o aJ).mono ?_;rintro e w5 ⟨l5,q5,rfl,hl5,hq5,hR5,hg5⟩;have hg5l:=hR5.lt;have HR5:=Aa hR5;have Hg5:=Aa (Ae Hg4.o hg5);have l5l:=hl5.2.1;have Hs:=Aa (Xv.three Hl1.o Hl3.o hl5);have hsl:(l1++(l3++l5)).length<=264:=by simp only[ah];omega
 rw[List.append_assoc]at Hs;clear hR5 hg5 hl5 HR4 Hg4 hcell;have Hsok:=Aa (fun W=>Qan (l1++(l3++l5)) W aH);clear Hl1 Hl3;go_upto_region 2 with fail
 generalize (B9 (l1++(l3++l5))).isSome=ok at *;generalize l1++(l3++l5)=s0 at *;go_cut [30]from 5 (fun b30 wx=>∃(tb:Bool) (q':Nat),b30=.bool tb/\q'<=q5+1/\Hid (Fg wx g q')/\Hid (w.grownBy wx (some g)))
 case first=>
  go_wp2_with fail;refine(Hsok.o _).mono ?_;rintro e w6 ⟨rfl,hb6⟩;have HR6:=Aa (HR5.o.below hb6);have Hg6:=Aa (Ae Hg5.o (Cc hb6 (some g)));clear hb6 Hsok;cases ok with
  |true=>
   go_wp2_with fail;go_meet
   exact⟨false,q5,rfl,by omega,HR6.o,Hg6.o⟩
  |false=>
   go_wp2_with fail;refine(Bs g q5 8 _ HR6.o aH aH aH).mono ?_;rintro e w7 ⟨u,rfl,_,_,hR7,hg7⟩;have HR7:=Aa hR7;have Hg7:=Aa (Ae Hg6.o hg7);clear hR7 hg7;go_wp2_with fail;go_meet
   exact⟨decide (0<u),q5+1,rfl,by omega,HR7.o,Hg7.o⟩
 case rest=>
  obtain⟨tb,q',rfl,hq',HR7,Hg7⟩:=hcut;obtain⟨w7,rfl⟩:∃w7:World,w7=wc:=⟨_,rfl⟩
  clear Hsok HR5 Hg5;go_upto_if 30 with fail
  go_cut [3]from 5 (fun s3 wx=>∃s:List UInt8,s3=s/\Hid (Xv s)/\wx=w7)
  case first=>
   cases tb with
   |true=>
    go_wp2_with fail;go_meet
    exact⟨Qcr,by simp only[Qcr],Xv.plain,rfl⟩
   |false=>
    go_wp2_with fail;go_meet
    exact⟨s0,rfl,Hs.o,rfl⟩
  case rest=>
   clear Hs hsl;obtain⟨s,rfl,Hs,rfl⟩:=hcut;have hsl:=Hs.o.1;have hs1:=Hs.o.2.1;go_wp2_with fail;refine(Bs g q' 24 _ HR7.o aH aH aH).mono ?_;rintro e w8 ⟨z,rfl,_,_,hR8,hg8⟩;have HR8:=Aa hR8;have Hg8:=Aa (Ae Hg7.o hg8);clear hR8 hg8 HR7 Hg7;by_cases hz0:z=0
   ·have tz:((z:Int) == 0)=true:=by simp[hz0]
    clear hz0;go_wp2_with fail;refine(Bs g (q'+1) s.length _ HR8.o aH aH aH).mono ?_;rintro e w9 ⟨k,rfl,hk1,_,hR9,hg9⟩;have hk1:=hk1 aH;have hk:k<s.length:=aH;have Hg9:=Aa (Ae Hg8.o hg9);obtain⟨code,hRL⟩:=hR9.known;have hgl9:=hRL.any.lt;obtain⟨hy1,_⟩:=Qdv code (q'+1+1) 5;have hy1:=hy1 aH;have HPk:=Aa (fun W (h:N5 W g (q'+1+1) code)=>Qcv g (q'+1+1) code 5 W h aH aH aH);generalize Xb code (q'+1+1) 5=y at *;obtain⟨i,hi⟩:∃i:List UInt8,Zz[y]?=some i:=⟨Zz[y]'(by show y<5;omega),List.getElem?_eq_getElem _⟩
    have him:=List.mem_of_getElem? hi;have hil:i.length<=1:=(show ∀i∈Zz,i.length<=1 by decide) i him;have Hi:=Aa hi;have Him:=Aa him;have Hk:=Aa hk;have i5:(0:Int)<=(k:Int):=aH;have i6:(k:Int)<=(s.length:Int):=aH;have i7:(k:Int)+1<=(s.length:Int):=aH;have i8:(0:Int)<=(k:Int)+1:=aH;have y1:(0:Int)<=(y:Int):=aH;have y2:(y:Int)<5:=aH;have hwr:IntKind.i64.wrap ((k:Int)+1)=(k:Int)+1:=IntWalk.i64_in _ aH;clear hR9 hg9 HR8 Hg8 hi him hk tz;go_wp2_with fail;refine rgP Zz 3 5 6 hRL ?_;iterate 3 refine sq ?_
    refine Qou ?_;refine sq ?_;refine Qob hgl9 HPk.o ?_;refine Qor ?_;refine Qov Hi.o ?_;refine sqZ ?_;iterate 4 refine sq ?_
    refine sqZ ?_;refine sq ?_;refine dnP (fun W hW=>?_) aJ;go_wp2_with fail;go_ret;exact⟨_,q'+1+1+1,rfl,by simpa using Xv.turned Hs.o Hk.o Him.o,by omega,hW.o.rd.any,Ae Hg9.o hW.o.gr⟩
   ·have tz:((z:Int) == 0)=false:=aM;clear hz0;go_wp2_with fail;go_ret;exact⟨s,q'+1,rfl,Hs.o.o,by omega,HR8.o,Hg8.o⟩
def DKs(l:List UInt8):Prop:=DK l\/l∈Zp\/l=[110]
theorem DKs.len{l:List UInt8}(h:DKs l):l.length<=15:=by
 rcases h with h|h|rfl
 ·exact h.len
 ·exact(show ∀l∈Zp,l.length<=15 by decide) l h
 decide
theorem Qeh(g p:Nat)(s:List UInt8)(w:World)(h:Fg w g p)(hp:p<=10000000)(hs:s.length<=1000000):
  Calls prog 78 #[g,s] w (Tv DKs w g p 10):=by
 have hgl:=h.lt;have HR:=Aa h;clear h;go_enter func78,ntmps78;go_wp2_with fail;refine(Bs g p 30 _ HR.o aH aH aH).mono ?_;rintro e w1 ⟨x,rfl,hx1,_,hR1,hg1⟩;have HR1:=Aa hR1;have Hg1:=Aa hg1;have hg1l:=hR1.lt;clear hR1 hg1 HR hx1;by_cases hx0:x=0
 ·subst hx0;go_wp2_with fail;refine(Ni g (p+1) _ HR1.o aH).mono ?_;rintro e w2 ⟨l,q,rfl,hl,hq,hR2,hg2⟩;have HR2:=Aa hR2;have Hg2:=Aa (Ae Hg1.o hg2);have Hl:=Aa hl;clear hR2 hg2 hl HR1 Hg1;go_wp2_with fail;go_ret;exact⟨l,q,rfl,.inl Hl.o,by omega,HR2.o,Hg2.o⟩
 have tx:((x:Int) == 0)=false:=aM;clear hx0;go_wp2_with fail;refine(Bs g (p+1) 11 _ (HR1.o.dalloc _) aH aH aH).mono ?_;rintro e w2 ⟨y,rfl,hy1,_,hR2,hg2⟩;have hy:y<Zp.length:=by show y<11;omega
 obtain⟨k,hkm,hcell⟩:=((J1.new w1 Zp).grown hg2 aH).cell hy;have hkl:k.length<=15:=(show ∀l∈Zp,l.length<=15 by decide) k hkm;have i1:(0:Int)<=(y:Int):=aH;have i2:(y:Int)<11:=aH;have HR2:=Aa hR2;have Hg2:=Aa (Ae Hg1.o (Ae (World.grownBy_alloc w1 _ (some g)) hg2));have Hk:=Aa hkm;have Hkind:=Aa (fun W=>Pe s k W aH aH);generalize Bm s k=o at Hkind;clear hR2 hg2 hkm HR1 Hg1 hy hy1;go_wp2_with fail;refine(Hkind.o _).mono ?_;rintro e w3 ⟨hc3,hb3⟩;have HR3:=Aa (HR2.o.below hb3);have Hg3:=Aa (Ae Hg2.o (Cc hb3 (some g)));clear hb3 HR2 Hg2 hcell;cases o with
 |none=>
  obtain⟨A,n,c,rfl⟩:=hc3;go_wp2_with fail;go_ret;exact⟨[110],p+1+1,rfl,.inr (.inr rfl),by omega,HR3.o,Hg3.o⟩
 |some z=>
  obtain⟨v,xs,rfl,_,_⟩:=hc3;go_wp2_with fail;go_ret;exact⟨k,p+1+1,rfl,.inr (.inl Hk.o),by omega,HR3.o,Hg3.o⟩
theorem Qbx{w a b:World}{g:Nat}(h:Below w w a)(hg:a.grownBy b (some g))(hgb:w.heap.size<=g):Below w w b:=
 h.grown hg h.size (fun k hk=>by injection hk with hk;omega)
abbrev Cn:=List UInt8
def Vv(S:List Ty):Nat->Kd->List Cn->List Cn
 |0,_,out=>out
 |n+1,k,out=>
  if k.base=[64]/\k.name∉out then
   (match Bk S k.name with
    |none=>out++[k.name]
    |some t=>if t.sort=69 then out++[k.name]else t.fields.foldl (fun o f=>Vv S n f.kind o) (out++[k.name]))
  else out
def Fu(S:List Ty):List Cn:=S.map (·.name)
theorem Gi{S:List Ty}{n:Cn}:(Bk S n).isSome=true↔n∈Fu S:=by
 unfold Bk Fu;rw[List.find?_isSome];simp
def Qf2(S:List Ty)(out:List Cn):Prop:=out.Nodup/\∀x∈out,x∈Fu S
theorem Qf2.nil(S:List Ty):Qf2 S []:=⟨List.nodup_nil,by simp⟩
theorem Qg0:∀(l m:List Cn),l.Nodup->(∀x∈l,x∈m)->l.length<=m.length
 |[],m,_,_=>ag _
 |x::l,m,hn,hs=>by
  obtain⟨h1,h2⟩:=List.nodup_cons.1 hn;have hx:=hs x aK
  have ih:=Qg0 l (m.erase x) h2 (fun y hy=>by
   have hne:y≠x:=by rintro rfl;exact h1 hy
   exact(List.mem_erase_of_ne hne).2 (hs y gk))
  have hl:=List.length_erase_of_mem hx;have hp:0<m.length:=List.length_pos_iff.2 (by rintro rfl;cases hx);simp;omega
theorem Qf2.len{S:List Ty}{out:List Cn}(h:Qf2 S out):out.length<=S.length:=by
 have:=Qg0 out (Fu S) h.1 h.2;simpa [Fu]using this
theorem Qf2.snoc{S:List Ty}{out:List Cn}{x:Cn}(h:Qf2 S out)(hx:x∈Fu S)(hn:x∉out):Qf2 S (out++[x]):=by
 refine⟨?_,?_⟩
 ·rw[List.nodup_append];refine⟨h.1,by simp,?_⟩;intro a ha b hb;simp at hb;subst hb;rintro rfl;exact hn ha
 intro y hy;rcases af.1 hy with hy|hy
 ·exact h.2 y hy
 simp at hy;subst hy;exact hx
theorem Yd(fs:List Fd):∀y∈fs.flatMap Ky,y.oneCell'=true:=by
 intro y hy;obtain⟨v,_,hv⟩:=List.mem_flatMap.1 hy;simp[Ky]at hv;rcases hv with rfl|rfl|rfl|rfl<;>rfl
section
variable {P:Program}
theorem Ny(w:World)(base:Nat)(t ty e:TypeId)(i:TypeInfo)(z:Value)(size bytes:Nat)(ht:P.underlying t=some (.slice e))(hi:P.info? e=some i)(hz:i.zero=some z)
  (hsize:i.size=size) (hby:i.bytes=bytes) (hzs:z.cells.size=size) (hsz:0<size)
  (v:Value) (n:Nat) (xs:List Value) (hown:w.ownsRow base e size v n xs)
  (a:Addr) (m c:Nat) (news:List Value) (hl:news.length=m*size) (hnews:∀j u,news[j]?=some u->w.cell? (a.add j)=some u) (h1:∀u∈news,u.oneCell'=true)
  (hm:0<m) (h63:n+m<=maxLen) (hbytes:(n+m)*bytes<=140737488355328) (hbase:base<=w.heap.size):
  ∃v' w',(Builtin.append_ #[t,t] ty #[v,.slice (some a) m c]).run P w=.ok v' w'/\w'.ownsRow base e size v' (n+m) (xs++news)/\w.grownBy w' v.ownBlock /\
   (v'.ownBlock=v.ownBlock\/∃k,v'.ownBlock=some k/\w.heap.size<=k):=by
 obtain⟨v',w',hr,h2,h3,_⟩:=run_append_own (P:=P) w base t ty e i z size bytes ht hi hz hsize hby hzs hsz v n xs hown a m c news hl hnews h1 h63 hbytes hbase;refine⟨v',w',hr,h2,h3,?_⟩;subst hsize;subst hby;have h63':n+m<=9223372036854775807:=by simp only[maxLen]at h63;omega
 rcases hown.2 with⟨rfl,rfl⟩|⟨g,cap,cur,rfl,hbg,hg,hnc,hcm,hcs,htake⟩
 ·have hq:=run_append_nil (P:=P) w t ty e i z ht hi hz a m c news hl hnews hm aH (by have hb:=hbytes;simp only[am]at hb;omega);exact kj
 by_cases hroom:n+m<=cap
 ·have hfit:n*i.size+news.length<=cur.size:=by rw[hl,hcs,<-Nat.add_mul];exact Nat.mul_le_mul_right _ hroom
  have hq:=run_append_room (P:=P) w t ty e i ht hi g n cap cur hg a m c news hl hnews h1 hroom hfit;rw[hq]at hr;injection hr with e1 _;subst e1;exact .inl rfl
 have holds:∀j u,xs[j]?=some u->w.cell? ((⟨g,0,none⟩:Addr).add j)=some u:=hown.cells (g:=g) rfl;have hq:=run_append_grow (P:=P) w t ty e i z ht hi hz ⟨g,0,none⟩ n cap xs hown.1 holds a m c news hl hnews aH aH (growslice_fits aH hbytes);exact kj
theorem Ff(w:World){ops:Array Oper}{rest:List Oper}{o:Oper}{a:Act}{Q:Exit->Act->World->Prop}(hgd:o.guard=none)(s x:Operand)(t:TypeId)
  (ho:o.op=.call {callee:=.builtin .append,args:=#[s,x],argTypes:=#[t,t]})
  (base:Nat) (e:TypeId) (z:Value) (bytes:Nat) (ht:P.underlying t=some (.slice e)) (hinfo:(P.info? e).map (fun i=>(i.zero,i.size,i.bytes))=some (some z,1,bytes))
  (hzs:z.cells.size=1) (W:World) (u:Value) (hw:w=W.alloc (.cells #[u] e)) (hu:u.oneCell'=true) (v:Value) (n:Nat) (xs:List Value) (hs:a.eval s=v) (hx:a.eval x=.slice (W,0) 1 1)
  (hown:W.ownsRow base e 1 v n xs)
  (h63:n+1<=maxLen) (hbytes:(n+1)*bytes<=140737488355328) (hbase:base<=W.heap.size)
  (h:∀v' w',w'.ownsRow base e 1 v' (n+1) (xs++[u])->W.grownBy w' v.ownBlock->(v'.ownBlock=v.ownBlock\/∃k,v'.ownBlock=some k/\W.heap.size<=k)->wpList P ops Q rest (a.put o.dst v') w'):wpList P ops Q (o::rest) a w:=by
 subst hw;obtain⟨i0,hi,hz0,hz1,hz2⟩:=info_parts hinfo
 obtain⟨v',w',hrun,r1,r2,r3⟩:=Ny (P:=P) (W.alloc (.cells #[u] e)) base t o.type e i0 z 1 bytes ht hi hz0 hz1 hz2 hzs aJ v n xs (hown.alloc _) ⟨W.heap.size,0,none⟩ 1 1 [u] rfl (by
  intro j y hj;match j,hj with
  |0,hj=>simp at hj;subst hj;simp[Addr.add,World.cell?_alloc_new]) (by intro y hy;simp at hy;subst hy;exact hu) aJ h63 hbytes aM
 refine wpList_plain hgd fun K' hK'=>?_;unfold Oper.wp;simp[execOp,ho,resolve,invoke,builtin,hs,hx,hrun,Result.andThen];refine hK' _ _ (h v' w' r1 ?_ ?_)
 ·exact ji
 rcases r3 with r3|⟨k,r3,r4⟩
 ·exact .inl r3
 exact .inr ⟨k,r3,by simp at r4;omega⟩
end
end
section
variable {P:Program}
theorem Fp(W:World){o:Oper}{a:Act}{K:Act->World->Prop}{Q:Exit->Act->World->Prop}(s x:Operand)(t:TypeId)
  (ho:o.op=.call {callee:=.builtin .append,args:=#[s,x],argTypes:=#[t,t]})
  (base:Nat) (e:TypeId) (z:Value) (k bytes:Nat) (ht:P.underlying t=some (.slice e)) (hinfo:(P.info? e).map (fun i=>(i.zero,i.size,i.bytes))=some (some z,k,bytes))
  (hzs:z.cells.size=k) (hk:0<k) (us:List Value) (hul:us.length=k) (hu:∀u∈us,u.oneCell'=true) (v:Value) (n:Nat) (xs:List Value) (hs:a.eval s=v) (hx:a.eval x=.slice (W,0) 1 1)
  (hown:W.ownsRow base e k v n xs) (h63:n+1<=maxLen) (hbytes:(n+1)*bytes<=140737488355328) (hbase:base<=W.heap.size)
  (h:∀v' w',w'.ownsRow base e k v' (n+1) (xs++us)->W.grownBy w' v.ownBlock->(v'.ownBlock=v.ownBlock\/∃k,v'.ownBlock=some k/\W.heap.size<=k)->K (a.put o.dst v') w'):Oper.wp P o a (W.alloc (.cells us.toArray e)) K Q:=by
 obtain⟨i0,hi,hz0,hz1,hz2⟩:=info_parts hinfo
 obtain⟨v',w',hrun,r1,r2,r3⟩:=Ny (P:=P) (W.alloc (.cells us.toArray e)) base t o.type e i0 z k bytes ht hi hz0 hz1 hz2 hzs hk v n xs (hown.alloc _) ⟨W.heap.size,0,none⟩ 1 1 us aH (by
  intro j y hj;have e1:(⟨W.heap.size,0,none⟩:Addr).add j=⟨W.heap.size,j,none⟩:=bD;rw[e1,World.cell?_alloc_new];simpa using hj) hu aJ h63 hbytes aM
 unfold Oper.wp;simp[execOp,ho,resolve,invoke,builtin,hs,hx,hrun,Result.andThen];refine h v' w' r1 ?_ ?_
 ·exact ji
 rcases r3 with r3|⟨k,r3,r4⟩
 ·exact .inl r3
 exact .inr ⟨k,r3,by simp at r4;omega⟩
theorem Ph(W:World){ops:Array Oper}{rest:List Oper}{o:Oper}{a:Act}{Q:Exit->Act->World->Prop}(hgd:o.guard=none)(s x:Operand)(t:TypeId)
  (ho:o.op=.call {callee:=.builtin .append,args:=#[s,x],argTypes:=#[t,t]})
  (base:Nat) (e:TypeId) (z:Value) (k bytes:Nat) (ht:P.underlying t=some (.slice e)) (hinfo:(P.info? e).map (fun i=>(i.zero,i.size,i.bytes))=some (some z,k,bytes))
  (hzs:z.cells.size=k) (hk:0<k) (us:List Value) (hul:us.length=k) (hu:∀u∈us,u.oneCell'=true) (v:Value) (n:Nat) (xs:List Value) (hs:a.eval s=v) (hx:a.eval x=.slice (W,0) 1 1)
  (hown:W.ownsRow base e k v n xs) (h63:n+1<=maxLen) (hbytes:(n+1)*bytes<=140737488355328) (hbase:base<=W.heap.size)
  (h:∀v' w',w'.ownsRow base e k v' (n+1) (xs++us)->W.grownBy w' v.ownBlock->(v'.ownBlock=v.ownBlock\/∃k,v'.ownBlock=some k/\W.heap.size<=k)->wpList P ops Q rest (a.put o.dst v') w'):wpList P ops Q (o::rest) a (W.alloc (.cells us.toArray e)):=
 wpList_plain hgd fun K' hK'=>Fp W s x t ho base e z k bytes ht hinfo hzs hk us hul hu v n xs hs hx hown h63 hbytes hbase fun v' w' h1 h2 h3=>hK' _ _ (h v' w' h1 h2 h3)
end
section
open Go.Maps (Keyed)
def Qw(v:Value):Option (DataW Value × List MemPlace):=some (.held v,[])
def Dp(P:Program)(k:TypeId)(z:Value)(w:World)(b n:Nat)(F:Lit->Value):Prop:=
 ∃D:DataW Value,w.ownsMap P k Qw b n D/\Go.Maps.IsMap D/\∀l,WideAt.IsKeyLit l->D.atKey l (.held z)=.held (F l)
section
variable {P:Program} {k:TypeId} {z:Value} {w w':World} {b n:Nat} {F:Lit->Value}
theorem Dp.made(w:World)(P:Program)(k:TypeId)(z:Value):Dp P k z (w.alloc (.map #[] 0)) w 0 (fun _=>z):=
 ⟨.map [],World.ownsMap_made w P k Qw,Go.Maps.isMap_empty,fun l _=>rfl⟩
theorem Dp.lt(h:Dp P k z w b n F):b<w.heap.size:=by
 obtain⟨D,h1,_⟩:=h;exact h1.lt
theorem Dp.kept{row:Option Nat}(h:Dp P k z w b n F)(hg:w.grownBy w' row)(hne:some b≠row):Dp P k z w' b n F:=by
 obtain⟨D,h1,h2⟩:=h;exact⟨D,h1.kept hg hne,h2⟩
theorem Dp.below(h:Dp P k z w b n F)(hb:Below w w w'):Dp P k z w' b n F:=
 h.kept (row:=none) ⟨hb.os,hb.tape,hb.output,hb.size,fun k hk _=>hb.block k hk⟩ aK
theorem Dp.belowAt{B:Nat}(h:Dp P k z w b n F)(hlt:b<B)(hb:Below B w w'):Dp P k z w' b n F:=by
 obtain⟨D,⟨es,clock,h1,h2,h3,h4⟩,h5⟩:=h;exact⟨D,⟨es,clock,(hb.block b hlt).trans h1,h2,h3,h4⟩,h5⟩
theorem Dp.alloc(h:Dp P k z w b n F)(o:Obj):Dp P k z (w.alloc o) b n F:=h.below ((Ao _ _).alloc (An _) o)
theorem Dp.drew(h:Dp P k z w b n F):Dp P k z w.drew b n F:=h
theorem Dp.mono(h:Dp P k z w b n F){n':Nat}(hn:n<=n'):Dp P k z w b n' F:=by
 obtain⟨D,h1,h2⟩:=h;exact⟨D,h1.mono hn,h2⟩
theorem Dp.of_eq{G:Lit->Value}(h:Dp P k z w b n F)(e:∀l,WideAt.IsKeyLit l->F l=G l):Dp P k z w b n G:=by
 obtain⟨D,h1,h2,h3⟩:=h;exact⟨D,h1,h2,fun l hl=>by rw[h3 l hl,e l hl]⟩
theorem Dp.lookup{t e:TypeId}(h:Dp P k z w b n F)(K:Keyed P k)(ht:P.underlying t=some (.map k e))(hz:(zeroValue e).run P w=.ok z w){key:Value}{kl:Lit}(hkey:keyOf P k key=some kl):
  (Instr.lookup t (.map (some b)) key false).run P w=.ok (F kl) w:=by
 obtain⟨D,h1,h2,h3⟩:=h;obtain⟨v,ps,hrun,hv⟩:=h1.lookup K ht hz (show Qw z=some (.held z,[])from rfl) hkey;rw[h3 kl (K.key hkey)]at hv;simp only[Qw,aj,aE,DataW.held.injEq]at hv;rw[hrun,hv.1]
theorem Dp.store{t e:TypeId}(h:Dp P k z w b n F)(K:Keyed P k)(ht:P.underlying t=some (.map k e))(hn:n<maxLen){key:Value}(val:Value){kl:Lit}(hkey:keyOf P k key=some kl):
  ∃w',(Instr.mapUpdate t (.map (some b)) key val).run P w=.ok () w'/\Dp P k z w' b (n+1) (fun l=>if l.sameKey kl=true then val else F l)/\w.grownBy w' (some b):=by
 obtain⟨D,h1,h2,h3⟩:=h;obtain⟨w',hrun,r1,r2⟩:=h1.update K ht hn hkey (show Qw val=some (.held val,[])from rfl);refine⟨w',hrun,⟨_,r1,h2.put _ _,fun l hl=>?_⟩,r2⟩;by_cases e:l=kl
 ·subst e;rw[Go.Maps.atKey_put_same h2 hl];simp[WideAt.sameKey_self hl]
 rw[Go.Maps.atKey_put_other e,h3 l hl];simp[show l.sameKey kl=false from Go.Maps.sameKey_ne e]
end
end
end Go.Proofs.YtmmhmlmfhpfgbaaGreatDoor
namespace Go.Proofs
open Go.Shelf
def Tryz.lays160_ren:Go.Shelf.Ren:=⟨fun|160=>196|232=>224|231=>190|227=>191|234=>225|233=>192|236=>226|235=>193|228=>221|271=>250|151=>223|197=>222|120=>262|152=>249|260=>248|137=>260|119=>261|224=>243|225=>242|217=>241|266=>256|n=>n,fun|9=>9|4=>4|3=>3|5=>5|117=>230|116=>229|0=>0|124=>233|21=>21|105=>253|46=>244|119=>283|139=>286|138=>285|n=>n,fun|3=>1|4=>2|n=>n⟩
theorem Tryz.lays160:Go.Proofs.Lays.n160 Tryz.prog Tryz.lays160_ren:={
 mixed:=by kernel_rfl
 f119:=Tryz.func261.trans (congrArg some (by kernel_rfl))
 f120:=Tryz.func262.trans (congrArg some (by kernel_rfl))
 f137:=Tryz.func260.trans (congrArg some (by kernel_rfl))
 f151:=Tryz.func223.trans (congrArg some (by kernel_rfl))
 f152:=Tryz.func249.trans (congrArg some (by kernel_rfl))
 f160:=Tryz.func196.trans (congrArg some (by kernel_rfl))
 f197:=Tryz.func222.trans (congrArg some (by kernel_rfl))
 f217:=Tryz.func241.trans (congrArg some (by kernel_rfl))
 f224:=Tryz.func243.trans (congrArg some (by kernel_rfl))
 f225:=Tryz.func242.trans (congrArg some (by kernel_rfl))
 f227:=Tryz.func191.trans (congrArg some (by kernel_rfl))
 f228:=Tryz.func221.trans (congrArg some (by kernel_rfl))
 f231:=Tryz.func190.trans (congrArg some (by kernel_rfl))
 f232:=Tryz.func224.trans (congrArg some (by kernel_rfl))
 f233:=Tryz.func192.trans (congrArg some (by kernel_rfl))
 f234:=Tryz.func225.trans (congrArg some (by kernel_rfl))
 f235:=Tryz.func193.trans (congrArg some (by kernel_rfl))
 f236:=Tryz.func226.trans (congrArg some (by kernel_rfl))
 f260:=Tryz.func248.trans (congrArg some (by kernel_rfl))
 f266:=Tryz.func256.trans (congrArg some (by kernel_rfl))
 f271:=Tryz.func250.trans (congrArg some (by kernel_rfl))
 t0:=Tryz.underlying0
 a0:=Tryz.isAgg0
 z0:=Tryz.sizeOf0
 v0:=Tryz.zeroValue0
 t3:=Tryz.underlying3
 a3:=Tryz.isAgg3
 z3:=Tryz.sizeOf3
 v3:=Tryz.zeroValue3
 t4:=Tryz.underlying4
 a4:=Tryz.isAgg4
 z4:=Tryz.sizeOf4
 v4:=Tryz.zeroValue4
 t5:=Tryz.underlying5
 a5:=Tryz.isAgg5
 z5:=Tryz.sizeOf5
 v5:=Tryz.zeroValue5
 t9:=Tryz.underlying9
 a9:=Tryz.isAgg9
 z9:=Tryz.sizeOf9
 v9:=Tryz.zeroValue9
 t21:=Tryz.underlying21
 a21:=Tryz.isAgg21
 z21:=Tryz.sizeOf21
 v21:=Tryz.zeroValue21
 t46:=Tryz.underlying244
 a46:=Tryz.isAgg244
 z46:=Tryz.sizeOf244
 v46:=Tryz.zeroValue244
 t105:=Tryz.underlying253
 a105:=Tryz.isAgg253
 z105:=Tryz.sizeOf253
 v105:=Tryz.zeroValue253
 t116:=Tryz.underlying229
 a116:=Tryz.isAgg229
 z116:=Tryz.sizeOf229
 t117:=Tryz.underlying230
 a117:=Tryz.isAgg230
 z117:=Tryz.sizeOf230
 v117:=Tryz.zeroValue230
 t119:=Tryz.underlying283
 a119:=Tryz.isAgg283
 z119:=Tryz.sizeOf283
 t124:=Tryz.underlying233
 a124:=Tryz.isAgg233
 z124:=Tryz.sizeOf233
 v124:=Tryz.zeroValue233
 t138:=Tryz.underlying285
 a138:=Tryz.isAgg285
 z138:=Tryz.sizeOf285
 v138:=Tryz.zeroValue285
 t139:=Tryz.underlying286
 a139:=Tryz.isAgg286
 z139:=Tryz.sizeOf286
 v139:=Tryz.zeroValue286
 g3:=by kernel_rfl
 g4:=by kernel_rfl}
def Tryz.lays161_ren:Go.Shelf.Ren:=⟨fun|161=>135|231=>190|227=>191|233=>192|235=>193|228=>221|197=>222|151=>223|260=>248|152=>249|137=>260|119=>261|224=>243|225=>242|217=>241|266=>256|n=>n,fun|9=>9|4=>4|3=>3|5=>5|117=>230|116=>229|0=>0|124=>233|105=>253|21=>21|119=>283|46=>244|139=>286|138=>285|n=>n,fun|3=>1|4=>2|n=>n⟩
theorem Tryz.lays161:Go.Proofs.Lays.n161 Tryz.prog Tryz.lays161_ren:={
 mixed:=by kernel_rfl
 f119:=Tryz.func261.trans (congrArg some (by kernel_rfl))
 f137:=Tryz.func260.trans (congrArg some (by kernel_rfl))
 f151:=Tryz.func223.trans (congrArg some (by kernel_rfl))
 f152:=Tryz.func249.trans (congrArg some (by kernel_rfl))
 f161:=Tryz.func135.trans (congrArg some (by kernel_rfl))
 f197:=Tryz.func222.trans (congrArg some (by kernel_rfl))
 f217:=Tryz.func241.trans (congrArg some (by kernel_rfl))
 f224:=Tryz.func243.trans (congrArg some (by kernel_rfl))
 f225:=Tryz.func242.trans (congrArg some (by kernel_rfl))
 f227:=Tryz.func191.trans (congrArg some (by kernel_rfl))
 f228:=Tryz.func221.trans (congrArg some (by kernel_rfl))
 f231:=Tryz.func190.trans (congrArg some (by kernel_rfl))
 f233:=Tryz.func192.trans (congrArg some (by kernel_rfl))
 f235:=Tryz.func193.trans (congrArg some (by kernel_rfl))
 f260:=Tryz.func248.trans (congrArg some (by kernel_rfl))
 f266:=Tryz.func256.trans (congrArg some (by kernel_rfl))
 t0:=Tryz.underlying0
 a0:=Tryz.isAgg0
 z0:=Tryz.sizeOf0
 v0:=Tryz.zeroValue0
 t3:=Tryz.underlying3
 a3:=Tryz.isAgg3
 z3:=Tryz.sizeOf3
 v3:=Tryz.zeroValue3
 t4:=Tryz.underlying4
 a4:=Tryz.isAgg4
 z4:=Tryz.sizeOf4
 v4:=Tryz.zeroValue4
 t5:=Tryz.underlying5
 a5:=Tryz.isAgg5
 z5:=Tryz.sizeOf5
 v5:=Tryz.zeroValue5
 t9:=Tryz.underlying9
 a9:=Tryz.isAgg9
 z9:=Tryz.sizeOf9
 v9:=Tryz.zeroValue9
 t21:=Tryz.underlying21
 a21:=Tryz.isAgg21
 z21:=Tryz.sizeOf21
 v21:=Tryz.zeroValue21
 t46:=Tryz.underlying244
 a46:=Tryz.isAgg244
 z46:=Tryz.sizeOf244
 v46:=Tryz.zeroValue244
 t105:=Tryz.underlying253
 a105:=Tryz.isAgg253
 z105:=Tryz.sizeOf253
 v105:=Tryz.zeroValue253
 t116:=Tryz.underlying229
 a116:=Tryz.isAgg229
 z116:=Tryz.sizeOf229
 t117:=Tryz.underlying230
 a117:=Tryz.isAgg230
 z117:=Tryz.sizeOf230
 v117:=Tryz.zeroValue230
 t119:=Tryz.underlying283
 a119:=Tryz.isAgg283
 z119:=Tryz.sizeOf283
 t124:=Tryz.underlying233
 a124:=Tryz.isAgg233
 z124:=Tryz.sizeOf233
 v124:=Tryz.zeroValue233
 t138:=Tryz.underlying285
 a138:=Tryz.isAgg285
 z138:=Tryz.sizeOf285
 v138:=Tryz.zeroValue285
 t139:=Tryz.underlying286
 a139:=Tryz.isAgg286
 z139:=Tryz.sizeOf286
 v139:=Tryz.zeroValue286
 g3:=by kernel_rfl
 g4:=by kernel_rfl}
def Tryz.lays99_ren:Go.Shelf.Ren:=⟨fun|99=>136|206=>194|n=>n,fun|9=>9|4=>4|3=>3|n=>n,fun|n=>n⟩
theorem Tryz.lays99:Go.Proofs.Lays.n99 Tryz.prog Tryz.lays99_ren:={
 mixed:=by kernel_rfl
 f99:=Tryz.func136.trans (congrArg some (by kernel_rfl))
 f206:=Tryz.func194.trans (congrArg some (by kernel_rfl))
 t3:=Tryz.underlying3
 a3:=Tryz.isAgg3
 z3:=Tryz.sizeOf3
 v3:=Tryz.zeroValue3
 t4:=Tryz.underlying4
 a4:=Tryz.isAgg4
 z4:=Tryz.sizeOf4
 v4:=Tryz.zeroValue4
 t9:=Tryz.underlying9
 a9:=Tryz.isAgg9
 z9:=Tryz.sizeOf9
 v9:=Tryz.zeroValue9}
def Tryz.lays100_ren:Go.Shelf.Ren:=⟨fun|100=>137|207=>195|n=>n,fun|9=>9|4=>4|3=>3|n=>n,fun|n=>n⟩
theorem Tryz.lays100:Go.Proofs.Lays.n100 Tryz.prog Tryz.lays100_ren:={
 mixed:=by kernel_rfl
 f100:=Tryz.func137.trans (congrArg some (by kernel_rfl))
 f207:=Tryz.func195.trans (congrArg some (by kernel_rfl))
 t3:=Tryz.underlying3
 a3:=Tryz.isAgg3
 z3:=Tryz.sizeOf3
 v3:=Tryz.zeroValue3
 t4:=Tryz.underlying4
 a4:=Tryz.isAgg4
 z4:=Tryz.sizeOf4
 v4:=Tryz.zeroValue4
 t9:=Tryz.underlying9
 a9:=Tryz.isAgg9
 z9:=Tryz.sizeOf9
 v9:=Tryz.zeroValue9}
def Tryz.lays143_ren:Go.Shelf.Ren:=⟨fun|143=>214|219=>213|217=>241|225=>242|224=>243|267=>244|266=>256|314=>257|n=>n,fun|9=>9|3=>3|4=>4|5=>5|46=>244|146=>281|51=>267|n=>n,fun|1=>0|n=>n⟩
theorem Tryz.lays143:Go.Proofs.Lays.n143 Tryz.prog Tryz.lays143_ren:={
 mixed:=by kernel_rfl
 f143:=Tryz.func214.trans (congrArg some (by kernel_rfl))
 f217:=Tryz.func241.trans (congrArg some (by kernel_rfl))
 f219:=Tryz.func213.trans (congrArg some (by kernel_rfl))
 f224:=Tryz.func243.trans (congrArg some (by kernel_rfl))
 f225:=Tryz.func242.trans (congrArg some (by kernel_rfl))
 f266:=Tryz.func256.trans (congrArg some (by kernel_rfl))
 f267:=Tryz.func244.trans (congrArg some (by kernel_rfl))
 f314:=Tryz.func257.trans (congrArg some (by kernel_rfl))
 t3:=Tryz.underlying3
 a3:=Tryz.isAgg3
 z3:=Tryz.sizeOf3
 v3:=Tryz.zeroValue3
 t4:=Tryz.underlying4
 a4:=Tryz.isAgg4
 z4:=Tryz.sizeOf4
 v4:=Tryz.zeroValue4
 t5:=Tryz.underlying5
 a5:=Tryz.isAgg5
 z5:=Tryz.sizeOf5
 v5:=Tryz.zeroValue5
 t9:=Tryz.underlying9
 a9:=Tryz.isAgg9
 z9:=Tryz.sizeOf9
 v9:=Tryz.zeroValue9
 t46:=Tryz.underlying244
 a46:=Tryz.isAgg244
 z46:=Tryz.sizeOf244
 v46:=Tryz.zeroValue244
 t51:=Tryz.underlying267
 a51:=Tryz.isAgg267
 z51:=Tryz.sizeOf267
 v51:=Tryz.zeroValue267
 t146:=Tryz.underlying281
 a146:=Tryz.isAgg281
 z146:=Tryz.sizeOf281
 v146:=Tryz.zeroValue281
 g1:=by kernel_rfl}
def Tryz.lays144_ren:Go.Shelf.Ren:=⟨fun|144=>173|143=>214|219=>213|217=>241|225=>242|224=>243|267=>244|266=>256|314=>257|n=>n,fun|9=>9|4=>4|3=>3|5=>5|46=>244|146=>281|51=>267|n=>n,fun|1=>0|n=>n⟩
theorem Tryz.lays144:Go.Proofs.Lays.n144 Tryz.prog Tryz.lays144_ren:={
 mixed:=by kernel_rfl
 f143:=Tryz.func214.trans (congrArg some (by kernel_rfl))
 f144:=Tryz.func173.trans (congrArg some (by kernel_rfl))
 f217:=Tryz.func241.trans (congrArg some (by kernel_rfl))
 f219:=Tryz.func213.trans (congrArg some (by kernel_rfl))
 f224:=Tryz.func243.trans (congrArg some (by kernel_rfl))
 f225:=Tryz.func242.trans (congrArg some (by kernel_rfl))
 f266:=Tryz.func256.trans (congrArg some (by kernel_rfl))
 f267:=Tryz.func244.trans (congrArg some (by kernel_rfl))
 f314:=Tryz.func257.trans (congrArg some (by kernel_rfl))
 t3:=Tryz.underlying3
 a3:=Tryz.isAgg3
 z3:=Tryz.sizeOf3
 v3:=Tryz.zeroValue3
 t4:=Tryz.underlying4
 a4:=Tryz.isAgg4
 z4:=Tryz.sizeOf4
 v4:=Tryz.zeroValue4
 t5:=Tryz.underlying5
 a5:=Tryz.isAgg5
 z5:=Tryz.sizeOf5
 v5:=Tryz.zeroValue5
 t9:=Tryz.underlying9
 a9:=Tryz.isAgg9
 z9:=Tryz.sizeOf9
 v9:=Tryz.zeroValue9
 t46:=Tryz.underlying244
 a46:=Tryz.isAgg244
 z46:=Tryz.sizeOf244
 v46:=Tryz.zeroValue244
 t51:=Tryz.underlying267
 a51:=Tryz.isAgg267
 z51:=Tryz.sizeOf267
 v51:=Tryz.zeroValue267
 t146:=Tryz.underlying281
 a146:=Tryz.isAgg281
 z146:=Tryz.sizeOf281
 v146:=Tryz.zeroValue281
 g1:=by kernel_rfl}
def Tryz.lays138_ren:Go.Shelf.Ren:=⟨fun|138=>246|195=>258|218=>259|143=>214|219=>213|217=>241|225=>242|224=>243|267=>244|266=>256|314=>257|n=>n,fun|9=>9|3=>3|4=>4|5=>5|0=>0|46=>244|146=>281|51=>267|n=>n,fun|1=>0|n=>n⟩
theorem Tryz.lays138:Go.Proofs.Lays.n138 Tryz.prog Tryz.lays138_ren:={
 mixed:=by kernel_rfl
 f138:=Tryz.func246.trans (congrArg some (by kernel_rfl))
 f143:=Tryz.func214.trans (congrArg some (by kernel_rfl))
 f195:=Tryz.func258.trans (congrArg some (by kernel_rfl))
 f217:=Tryz.func241.trans (congrArg some (by kernel_rfl))
 f218:=Tryz.func259.trans (congrArg some (by kernel_rfl))
 f219:=Tryz.func213.trans (congrArg some (by kernel_rfl))
 f224:=Tryz.func243.trans (congrArg some (by kernel_rfl))
 f225:=Tryz.func242.trans (congrArg some (by kernel_rfl))
 f266:=Tryz.func256.trans (congrArg some (by kernel_rfl))
 f267:=Tryz.func244.trans (congrArg some (by kernel_rfl))
 f314:=Tryz.func257.trans (congrArg some (by kernel_rfl))
 t0:=Tryz.underlying0
 a0:=Tryz.isAgg0
 z0:=Tryz.sizeOf0
 v0:=Tryz.zeroValue0
 t3:=Tryz.underlying3
 a3:=Tryz.isAgg3
 z3:=Tryz.sizeOf3
 v3:=Tryz.zeroValue3
 t4:=Tryz.underlying4
 a4:=Tryz.isAgg4
 z4:=Tryz.sizeOf4
 v4:=Tryz.zeroValue4
 t5:=Tryz.underlying5
 a5:=Tryz.isAgg5
 z5:=Tryz.sizeOf5
 v5:=Tryz.zeroValue5
 t9:=Tryz.underlying9
 a9:=Tryz.isAgg9
 z9:=Tryz.sizeOf9
 v9:=Tryz.zeroValue9
 t46:=Tryz.underlying244
 a46:=Tryz.isAgg244
 z46:=Tryz.sizeOf244
 v46:=Tryz.zeroValue244
 t51:=Tryz.underlying267
 a51:=Tryz.isAgg267
 z51:=Tryz.sizeOf267
 v51:=Tryz.zeroValue267
 t146:=Tryz.underlying281
 a146:=Tryz.isAgg281
 z146:=Tryz.sizeOf281
 v146:=Tryz.zeroValue281
 g1:=by kernel_rfl}
def Tryz.lays219_ren:Go.Shelf.Ren:=⟨fun|219=>213|217=>241|225=>242|224=>243|267=>244|266=>256|314=>257|n=>n,fun|9=>9|3=>3|4=>4|5=>5|46=>244|146=>281|51=>267|n=>n,fun|1=>0|n=>n⟩
theorem Tryz.lays219:Go.Proofs.Lays.n219 Tryz.prog Tryz.lays219_ren:={
 mixed:=by kernel_rfl
 f217:=Tryz.func241.trans (congrArg some (by kernel_rfl))
 f219:=Tryz.func213.trans (congrArg some (by kernel_rfl))
 f224:=Tryz.func243.trans (congrArg some (by kernel_rfl))
 f225:=Tryz.func242.trans (congrArg some (by kernel_rfl))
 f266:=Tryz.func256.trans (congrArg some (by kernel_rfl))
 f267:=Tryz.func244.trans (congrArg some (by kernel_rfl))
 f314:=Tryz.func257.trans (congrArg some (by kernel_rfl))
 t3:=Tryz.underlying3
 a3:=Tryz.isAgg3
 z3:=Tryz.sizeOf3
 v3:=Tryz.zeroValue3
 t4:=Tryz.underlying4
 a4:=Tryz.isAgg4
 z4:=Tryz.sizeOf4
 v4:=Tryz.zeroValue4
 t5:=Tryz.underlying5
 a5:=Tryz.isAgg5
 z5:=Tryz.sizeOf5
 v5:=Tryz.zeroValue5
 t9:=Tryz.underlying9
 a9:=Tryz.isAgg9
 z9:=Tryz.sizeOf9
 v9:=Tryz.zeroValue9
 t46:=Tryz.underlying244
 a46:=Tryz.isAgg244
 z46:=Tryz.sizeOf244
 v46:=Tryz.zeroValue244
 t51:=Tryz.underlying267
 a51:=Tryz.isAgg267
 z51:=Tryz.sizeOf267
 v51:=Tryz.zeroValue267
 t146:=Tryz.underlying281
 a146:=Tryz.isAgg281
 z146:=Tryz.sizeOf281
 v146:=Tryz.zeroValue281
 g1:=by kernel_rfl}
def Tryz.lays156_ren:Go.Shelf.Ren:=⟨fun|156=>92|165=>146|166=>147|169=>148|240=>201|241=>202|276=>227|277=>228|n=>n,fun|31=>57|9=>9|3=>3|4=>4|0=>0|20=>20|72=>195|76=>199|70=>193|37=>22|75=>198|127=>237|164=>256|5=>5|80=>71|n=>n,fun|n=>n⟩
theorem Tryz.lays156:Go.Proofs.Lays.n156 Tryz.prog Tryz.lays156_ren:={
 mixed:=by kernel_rfl
 f156:=Tryz.func92.trans (congrArg some (by kernel_rfl))
 f165:=Tryz.func146.trans (congrArg some (by kernel_rfl))
 f166:=Tryz.func147.trans (congrArg some (by kernel_rfl))
 f169:=Tryz.func148.trans (congrArg some (by kernel_rfl))
 f240:=Tryz.func201.trans (congrArg some (by kernel_rfl))
 f241:=Tryz.func202.trans (congrArg some (by kernel_rfl))
 f276:=Tryz.func227.trans (congrArg some (by kernel_rfl))
 f277:=Tryz.func228.trans (congrArg some (by kernel_rfl))
 t0:=Tryz.underlying0
 a0:=Tryz.isAgg0
 z0:=Tryz.sizeOf0
 v0:=Tryz.zeroValue0
 t3:=Tryz.underlying3
 a3:=Tryz.isAgg3
 z3:=Tryz.sizeOf3
 v3:=Tryz.zeroValue3
 t4:=Tryz.underlying4
 a4:=Tryz.isAgg4
 z4:=Tryz.sizeOf4
 v4:=Tryz.zeroValue4
 t9:=Tryz.underlying9
 a9:=Tryz.isAgg9
 z9:=Tryz.sizeOf9
 v9:=Tryz.zeroValue9
 t20:=Tryz.underlying20
 a20:=Tryz.isAgg20
 z20:=Tryz.sizeOf20
 v20:=Tryz.zeroValue20
 t31:=Tryz.underlying57
 a31:=Tryz.isAgg57
 z31:=Tryz.sizeOf57
 v31:=Tryz.zeroValue57
 t37:=Tryz.underlying22
 a37:=Tryz.isAgg22
 z37:=Tryz.sizeOf22
 v37:=Tryz.zeroValue22
 t70:=Tryz.underlying193
 a70:=Tryz.isAgg193
 z70:=Tryz.sizeOf193
 v70:=Tryz.zeroValue193
 t72:=Tryz.underlying195
 a72:=Tryz.isAgg195
 z72:=Tryz.sizeOf195
 v72:=Tryz.zeroValue195
 t75:=Tryz.underlying198
 a75:=Tryz.isAgg198
 z75:=Tryz.sizeOf198
 v75:=Tryz.zeroValue198
 t76:=Tryz.underlying199
 a76:=Tryz.isAgg199
 z76:=Tryz.sizeOf199
 v76:=Tryz.zeroValue199
 t127:=Tryz.underlying237
 a127:=Tryz.isAgg237
 z127:=Tryz.sizeOf237
 v127:=Tryz.zeroValue237
 t164:=Tryz.underlying256
 a164:=Tryz.isAgg256
 z164:=Tryz.sizeOf256
 v164:=Tryz.zeroValue256}
end Go.Proofs
namespace Go.Proofs.YtmmhmlmfhpfgbaaGreatDoor
open Go.RowKit Go.Proofs.Tryz
section
attribute [local go_sem] Qoe Qnf Qmu Qk2 ByteArray.mk_append_mk
theorem Pi(s cs:List UInt8)(w:World)(hcs:cs.length<4294967281)(ha:∀b∈cs,b.toNat<128):
  Calls prog 135 #[s,cs] w fun e w'=>e=.returned (.string ⟨(s.dropWhile (cs.contains ·)).toArray⟩)/\Below w w w':=
 Any.strings_TrimLeft_laid Tryz.lays161 aN ⟨s.toArray⟩ ⟨cs.toArray⟩ w hcs (fun j b h=>ha b (List.mem_of_getElem? h))
theorem Nc{p:UInt8->Bool}:∀{l:List UInt8},l.dropWhile p=[]↔l.all p=true
 |[]=>aK
 |x::l=>by
  have ih:=Nc (p:=p) (l:=l);by_cases h:p x=true
  ·simp only[List.dropWhile_cons,h,if_true,List.all_cons,Bool.true_and];exact ih
  simp[h]
theorem Qha{l cs:List UInt8}:Lib.trimS l cs=[]↔l.all (cs.contains ·)=true:=by
 unfold Lib.trimS Lib.trimLeftS Lib.trimRightS;rw[Nc];have hsp:l.reverse.takeWhile (cs.contains ·)++l.reverse.dropWhile (cs.contains ·)=l.reverse:=List.takeWhile_append_dropWhile;have htk:=Km (p:=fun x=>cs.contains x) l.reverse;constructor
 ·intro h;rw[List.all_eq_true]at h htk ⊢;intro x hx;have hx':x∈l.reverse:=List.mem_reverse.2 hx;rw[<-hsp]at hx';rcases af.1 hx' with hx'|hx'
  ·exact htk x hx'
  exact h x (List.mem_reverse.2 hx')
 intro h;rw[List.all_eq_true]at h ⊢;intro x hx;have hx':=List.mem_reverse.1 hx;exact h x (List.mem_reverse.1 (by rw[<-hsp];exact List.mem_append_right _ hx'))
theorem Qee(s cs:List UInt8)(w:World)(hs:s.length<=9223372036854775807)(hcs:cs.length<4294967281)(ha:∀b∈cs,b.toNat<128):
  Calls prog 196 #[s,cs] w fun e w'=>(∃r:List UInt8,e=.returned r/\(r=[]↔s.all (cs.contains ·)=true))/\Below w w w':=
 (Any.strings_Trim_laid Tryz.lays160 aN ⟨s.toArray⟩ ⟨cs.toArray⟩ w hs hcs (fun j b h=>ha b (List.mem_of_getElem? h))).mono fun e w' ⟨h1,h2⟩=>⟨⟨_,h1,Qha⟩,h2⟩
theorem Qci(s p:List UInt8):Lib.hasPrefix s p=p.isPrefixOf s:=by
 unfold Lib.hasPrefix;first|rfl|simp
theorem Rz(s p:List UInt8)(w:World):
  Calls prog 136 #[s,p] w fun e w'=>e=.returned (.bool (p.isPrefixOf s))/\w=w':=
 (Any.strings_HasPrefix Tryz.lays99 ⟨s.toArray⟩ ⟨p.toArray⟩ w).mono fun e w' ⟨h1,h2⟩=>⟨by rw[h1,Qci],h2.symm⟩
theorem Sc(s p:List UInt8)(w:World)(hs:s.length<=9223372036854775807):
  Calls prog 137 #[s,p] w fun e w'=>e=.returned (.bool (Lib.hasSuffix s p))/\w=w':=
 (Any.strings_HasSuffix Tryz.lays100 ⟨s.toArray⟩ ⟨p.toArray⟩ w hs).mono fun e w' ⟨h1,h2⟩=>⟨h1,h2.symm⟩
theorem Ku(s:List UInt8)(c:UInt8):(c∉s/\Lib.indexByte s c = -1)\/∃p t,s=p++c::t/\c∉p/\Lib.indexByte s c=(p.length:Int):=by
 induction s with
 |nil=>exact .inl ⟨by simp,rfl⟩
 |cons x s ih=>
  by_cases hx:x=c
  ·exact .inr ⟨[],s,by simp[hx],by simp,by simp[Lib.indexByte,hx]⟩
  have hb:(x == c)=false:=by simpa using hx
  rcases ih with⟨hn,e⟩|⟨p,t,es,hp,e⟩
  ·exact .inl ⟨by simp;exact⟨fun h=>hx h.symm,hn⟩,by simp[Lib.indexByte,hb,e]⟩
  refine .inr ⟨x::p,t,by simp[es],by simp;exact⟨fun h=>hx h.symm,hp⟩,?_⟩;have:¬(p.length:Int) = -1:=aH;simp[Lib.indexByte,hb,e,this]
theorem Qhq(s:List UInt8)(c:UInt8)(w:World):
  Calls prog 214 #[s,.string ⟨#[c]⟩] w fun e w'=>e=.returned (.int .i64 (Lib.indexByte s c))/\w=w':=
 (Any.strings_Index_one Tryz.lays143 ⟨s.toArray⟩ c w).mono fun e w' ⟨h1,h2⟩=>⟨h1,h2.symm⟩
theorem Zi(s:List UInt8)(c:UInt8)(w:World):
  Calls prog 213 #[s,.string ⟨#[c]⟩] w fun e w'=>e=.returned (.int .i64 (Lib.indexByte s c))/\w=w':=
 (Any.stringslite_Index_one Tryz.lays219 ⟨s.toArray⟩ c w).mono fun e w' ⟨h1,h2⟩=>⟨h1,h2.symm⟩
theorem Qic(s:List UInt8)(c:UInt8)(w:World):
  Calls prog 246 #[s,.string ⟨#[c]⟩] w fun e w'=>e=.returned (.int .i64 ((s.count c:Nat):Int))/\w=w':=
 (Any.strings_Count_one Tryz.lays138 ⟨s.toArray⟩ c w).mono fun e w' ⟨h1,h2⟩=>⟨h1,h2.symm⟩
theorem Pp(s:List UInt8)(c:UInt8)(w:World):
  Calls prog 173 #[s,.string ⟨#[c]⟩] w fun e w'=>e=.returned (.bool (decide (c∈s)))/\w=w':=
 (Any.strings_Contains_one Tryz.lays144 ⟨s.toArray⟩ c w).mono fun e w' ⟨h1,h2⟩=>⟨by
  rw[h1];refine Em (Cz ?_);show decide (0<=Lib.indexByte s c)=_;rw[decide_eq_decide];rcases Ku s c with⟨hn,e⟩|⟨p,t,es,hp,e⟩
  ·rw[e];exact⟨fun h=>by omega,fun h=>absurd h hn⟩
  rw[e];exact⟨fun _=>by rw[es];simp,fun _=>by omega⟩,h2.symm⟩
def Qdm(r:List UInt8 × List UInt8 × Bool):Value:=.tuple #[r.1,r.2.1,.bool r.2.2]
theorem Qkx(s:List UInt8)(c:UInt8)(w:World)(hs:s.length<=4294967280):
  Calls prog 172 #[s,.string ⟨#[c]⟩] w fun e w'=>e=.returned (Qdm (Dl c s))/\∃k,w'=w.drewN k:=by
 rcases Ku s c with⟨hn,e⟩|⟨p,t,es,hp,e⟩
 ·have Hc:=Aa (Rq hn);have Hi:=Aa (fun W=>Zi s c W);rw[e]at Hi;clear hn e;go_enter func172,ntmps172;go_wp2_with fail;refine(Hi.o _).mono ?_;rintro e w' ⟨rfl,rfl⟩;go_wp2_with fail;go_ret3
  exact⟨by rw[Hc.o];rfl,0,rfl⟩
 have Hc:=Aa (show Dl c s=(p,t,true)by rw[es];exact E7 hp);have Hi:=Aa (fun W=>Zi s c W);rw[e]at Hi;have hl:s.length=p.length+1+t.length:=by rw[es];simp;omega
 have h1:s.take p.length=p:=by rw[es];simp
 have h2:s.drop (p.length+1)=t:=by
  rw[es,show p++c::t=(p++[c])++t by simp];exact List.drop_left' aK
 have k1:IntKind.i64.wrap ((p.length:Int)+1)=(p.length:Int)+1:=IntWalk.i64_in _ aH;have k2:((p.length:Int)+1).toNat=p.length+1:=aH;have k3:(0:Int)<=(p.length:Int)+1:=aH;have k4:(p.length:Int)+1<=(s.length:Int):=aH;have k5:(p.length:Int)<=(s.length:Int):=aH;have k6:(0:Int)<=(p.length:Int):=aH;have H1:=Aa h1;have H2:=Aa h2;clear e es hl h1 h2 hp;go_enter func172,ntmps172;go_wp2_with fail;refine(Hi.o _).mono ?_;rintro e w' ⟨rfl,rfl⟩;go_wp2_with fail;go_quiet (fail)
 go_wp2
 go_ret3
 exact⟨by rw[Hc.o];exact Qol (Qku H1.o) (Qku H2.o) rfl,_,rfl⟩
theorem Tp(s:List UInt8)(c:UInt8)(w:World)(hs:s.length<=4294967280):
  Calls prog 119 #[s,.string ⟨#[c]⟩] w fun e w'=>e=.returned (Qdm (Dl c s))/\∃k,w'=w.drewN k:=by
 go_enter func119,ntmps119;go_wp2_with fail;refine(Qkx s c _ hs).mono ?_;rintro e w' ⟨rfl,k,rfl⟩;unfold Qdm;go_wp2_with fail;go_ret3
 exact⟨rfl,k,rfl⟩
theorem S9(c:UInt8):∀s:List UInt8,(Al c s).length=s.count c+1
 |[]=>rfl
 |x::s=>by
  have ih:=S9 c s;simp only[Al];by_cases h:x=c
  ·rw[if_pos h,h];simp[ih]
  rw[if_neg h];have e:List.count c (x::s)=List.count c s:=List.count_cons_of_ne h;rw[e];cases hs:Al c s with
  |nil=>rw[hs]at ih;simp at ih
  |cons p ps=>rw[hs]at ih;simp at ih ⊢;exact ih
theorem Qi1(A B:List Value)(k:Nat)(x y:Value)(h:A.length=k):(A++x::B).set k y=A++y::B:=by
 subst h;rw[List.set_append,if_neg aH];simp
theorem Qdk{w:World}{base k n g cap:Nat}{ps:List (List UInt8)}{ys:List Value}(h:w.ownsRow base 9 1 (.slice (g,0) n cap) n (By ps++ys))(hk:ps.length=k)(hlt:k<n)(s:List UInt8):
  ∃zs,(w.setCell ⟨g,k,none⟩ s).ownsRow base 9 1 (.slice (g,0) n cap) n (By (ps++[s])++zs)/\w.grownBy (w.setCell ⟨g,k,none⟩ s) (some g)/\w.frozen? ⟨g,k,none⟩=false/\∃u,w.cell? ⟨g,k,none⟩=some u:=by
 have hl:(By ps).length=k:=by simp[By,hk]
 have h1:=h.1;rw[ah,hl]at h1;obtain⟨y,zs,rfl⟩:∃y zs,ys=y::zs:=by
  cases ys with
  |nil=>simp at h1;omega
  |cons y zs=>exact⟨y,zs,rfl⟩
 have hst:=h.stored k s;rw[Qi1 _ _ _ _ _ hl]at hst;have hc:=h.cellAt k aH;rw[List.getElem?_append_right aH,hl]at hc;simp at hc;exact⟨zs,by rw[Jp,List.append_assoc];exact hst.1,hst.2,h.frozenAt k,y,hc⟩
theorem Qln{w:World}{base k n g cap:Nat}{ps:List (List UInt8)}{ys:List Value}(h:w.ownsRow base 9 1 (.slice (g,0) n cap) n (By ps++ys))(hk:ps.length=k)(hle:k<=n):
  w.ownsRow base 9 1 (.slice (g,0) k cap) k (By ps):=by
 rcases h.2 with⟨e,_⟩|⟨g',cap',cur,e,hb,hh,hnc,hcm,hcs,htk⟩
 ·cases e
 injection e with e1 e2 e3;injection e1 with e1;injection e1 with e1;subst e1;subst e3;refine⟨by simp[By,hk],.inr ⟨g,cap,cur,rfl,hb,hh,by omega,hcm,hcs,?_⟩⟩;have hl:(By ps).length=k:=by simp[By,hk]
 have:(cur.toList.take (n*1)).take (k*1)=(By ps++ys).take (k*1):=by rw[htk]
 rw[List.take_take,Nat.min_eq_left aH]at this;rw[this,List.take_append_of_le_length aH,au aH]
theorem Qb7(s:List UInt8)(c:UInt8)(w:World)(hs:s.length<=4000000):
  Calls prog 215 #[s,.string ⟨#[c]⟩,.int .i64 0,.int .i64 (-1)] w fun e w'=>
   ∃v,e=.returned v/\w'.ownsRow w 9 1 v (Al c s).length (By (Al c s))/\Below w w w':=by
 obtain⟨i0,hi,hz0,hz1,hz2⟩:=info_parts Po;have hcnt:s.count c<=s.length:=List.count_le_length;have Hn:=Aa (S9 c s);have H0:=@Aa (Al c s=[]++Al c s) rfl;go_enter func215,ntmps215;go_wp2_with fail;refine(Qic s c w).mono ?_;rintro e w' ⟨rfl,rfl⟩;obtain⟨n,hn⟩:∃n,n=s.count c:=⟨_,rfl⟩
 have HN:=Aa hn;rw[<-hn]at hcnt ⊢;clear hn;have hmin:min ((n:Int)+1) ((s.length:Int)+1)=(n:Int)+1:=aH;go_wp2_with (at_make;refine wpList_make_full _ rfl _ _ 57 rfl w 9 i0 a6 1 underlying57 hi hz0 hz1 .i64 .i64 _ _ (n+1) rfl rfl aH aH (by rw[hz2];omega) aU (An _) ?_;intro w0 hown0 hgrow0)
 go_loopw [0,10] (fun x i wr=>∃(ps:List (List UInt8)) (r:List UInt8) (k:Nat),i=.int .i64 k/\k<=n/\x=r/\r.length<=s.length/\ps.length=k/\Hid (Al c s=ps++Al c r)/\Hid (r.count c+k=n) /\
   Hid (∃ys,wr.ownsRow w 9 1 (.slice (w,0) (n+1) (n+1)) (n+1) (By ps++ys))/\Hid (Below w w wr)) (fun _ i _=>n - (intOf i).toNat)
 case atStart=>exact⟨[],s,0,rfl,ag _,rfl,An _,rfl,H0.o,by show _=_;have:=HN.o;omega,⟨_,hown0⟩,(Ao _ _).grown hgrow0 (An _) aK⟩
 case round=>
  obtain⟨ps,r,k,rfl,hk,rfl,hr,hps,hsp,hct,hown,hb⟩:=hrel;have Hps:=Aa hps;clear hps;by_cases hlt:k<n
  ·have hmem:c∈r:=by
    have:=hct.o;exact List.count_pos_iff.1 aH
   have hix:∃p t,r=p++c::t/\c∉p/\Lib.indexByte r c=(p.length:Int):=by
    rcases Ku r c with⟨h,_⟩|h
    ·exact absurd hmem h
    exact h
   obtain⟨p,t,er,hp,e⟩:=hix;have Hi:=Aa (fun W=>Qhq r c W);rw[e]at Hi;have hl:r.length=p.length+1+t.length:=by rw[er];simp;omega
   have H1:=Aa (show r.take p.length=p by rw[er];simp)
   have H2:=Aa (show r.drop (p.length+1)=t by
    rw[er,show p++c::t=(p++[c])++t by simp];exact List.drop_left' aK)
   have Hsp:=Aa (show Al c s=(ps++[p])++Al c t by rw[hsp.o,er,Ml c p t hp];simp)
   have Hct:=Aa (show t.count c+(k+1)=n by
    have h0:=hct.o;have h1:p.count c=0:=List.count_eq_zero.2 hp;rw[er,List.count_append,h1,List.count_cons_self]at h0;omega)
   obtain⟨ys,hown'⟩:=hown.o;obtain⟨zs,n1,n2,n3,u,n4⟩:=Qdk hown' Hps.o (by omega:k<n+1) p;have N1:=Aa (show (wr.setCell ⟨w.heap.size,k,none⟩ (.string ⟨(r.take p.length).toArray⟩)).ownsRow w 9 1 (.slice (w,0) (n+1) (n+1)) (n+1) (By (ps++[p])++zs)by rw[H1.o];exact n1);have N2:=@Aa (Below w w (wr.setCell ⟨w.heap.size,k,none⟩ (.string ⟨(r.take p.length).toArray⟩))) (hb.o.setCell (p:=⟨w.heap.size,k,none⟩) (An _) _);have k1:(0:Int)<=(p.length:Int):=aH;have k2:(p.length:Int)<=(r.length:Int):=aH;have k3:p.length+1<=r.length:=aH;clear e er hp hmem hown' n1 n2 hl;go_wp2_with fail;refine(Hi.o _).mono ?_;rintro e w' ⟨rfl,rfl⟩;go_wp2_with fail;go_roundw
   case rel=>exact⟨ps++[p],t,k+1,by go_num,by omega,Qku H2.o,by have:=congrArg List.length H2.o;simp at this;omega,by rw[ah,Hps.o];rfl,Hsp.o,Hct.o,⟨zs,N1.o⟩,N2.o⟩
   case measure=>simp[intOf];omega
  ·obtain rfl:k=n:=aH;have hno:c∉r:=by
    have:=hct.o;exact List.count_eq_zero.1 aH
   have Hsp:=Aa (show Al c s=ps++[r]by rw[hsp.o,Jc c r hno]);obtain⟨ys,hown'⟩:=hown.o;obtain⟨zs,n1,n2,n3,u,n4⟩:=Qdk hown' Hps.o (by omega:k<k+1) r;have N1:=Aa (Qln n1 (by rw[ah,Hps.o];rfl) (An _));have N2:=@Aa (Below w w (wr.setCell ⟨w.heap.size,k,none⟩ r)) (hb.o.setCell (p:=⟨w.heap.size,k,none⟩) (An _) _);clear hown' n1 n2 hno;go_wp2_with fail;go_ret;refine⟨_,rfl,?_,N2.o⟩;have e1:(Al c s).length=k+1:=by rw[Hsp.o,ah,Hps.o];rfl
   rw[e1,Hsp.o];exact N1.o
theorem Vu(s:List UInt8)(c:UInt8)(w:World)(hs:s.length<=4000000):
  Calls prog 174 #[s,.string ⟨#[c]⟩] w fun e w'=>
   ∃v,e=.returned v/\w'.ownsRow w 9 1 v (Al c s).length (By (Al c s))/\Below w w w':=by
 go_enter func174,ntmps174;go_wp2_with fail;refine(Qb7 s c _ hs).mono ?_;rintro e w' ⟨v,rfl,ho,hb⟩;have Ho:=Aa ho;have Hb:=Aa hb;clear ho hb;go_wp2_with fail;go_ret;exact⟨_,rfl,Ho.o,Hb.o⟩
def Ql3:List UInt8:=[97,98,99,100,101,102,103,104,105,106,107,108,109,110,111,112,113,114,115,116,117,118,119,120,121,122]
def Qgf:List UInt8:=[97,98,99,100,101,102,103,104,105,106,107,108,109,110,111,112,113,114,115,116,117,118,119,120,121,122,48,49,50,51,52,53,54,55,56,57,32]
theorem Q9{p:UInt8->Bool}(h:∀n,n<256->p (UInt8.ofNat n)=true)(c:UInt8):p c=true:=by
 have:=h c.toNat c.toNat_lt;rwa [UInt8.ofNat_toNat]at this
theorem Qjv(c:UInt8):Ql3.contains c=J3 c:=by
 have:=Q9 (p:=fun c=>Ql3.contains c == J3 c) fJ c;simpa using this
theorem Qev(c:UInt8):Qgf.contains c=Co c:=by
 have:=Q9 (p:=fun c=>Qgf.contains c == Co c) fJ c;simpa using this
theorem Qlu(s:List UInt8):s.all (Ql3.contains ·)=s.all J3:=by congr 1;funext c;exact Qjv c
theorem Qli(s:List UInt8):s.all (Qgf.contains ·)=s.all Co:=by congr 1;funext c;exact Qev c
theorem Mn(s:List UInt8)(w:World)(hs:s.length<=9223372036854775807):
  Calls prog 138 #[s] w fun e w'=>e=.returned (.bool (Be s))/\Below w w w':=by
 by_cases h1:1<=s.length
 ·by_cases h3:s.length<=3
  ·have hT:=fun W=>Qee s Ql3 W hs aJ aJ;simp only[Qlu]at hT;have HT:=Aa hT;have hn:Be s=s.all J3:=by simp[Be,h1,h3]
   have Hn:=Aa hn;clear hn hT;go_enter func138,ntmps138;go_wp2_with fail;refine(HT.o _).mono ?_;rintro e w' ⟨⟨r,rfl,hr⟩,hb⟩;cases r with
   |nil=>
    have Hr:=Aa (hr.1 rfl);clear hr;go_wp2_with fail;exact km
   |cons x r=>
    have Hr:=Aa (show s.all J3=false by
     cases h:s.all J3 with
     |false=>rfl
     |true=>exact absurd (hr.2 h) aK)
    clear hr;go_wp2_with fail;exact km
  have Hn:=Aa (show Be s=false by simp[Be,h3]);go_enter func138,ntmps138;go_wp2_with fail;exact kq
 have Hn:=Aa (show Be s=false by simp[Be,h1]);go_enter func138,ntmps138;go_wp2_with fail;exact kq
theorem Qfq(s:List UInt8)(w:World)(hs:s.length<=9223372036854775807):
  Calls prog 183 #[s] w fun e w'=>e=.returned (.bool (Dt s))/\Below w w w':=by
 by_cases h3:s.length<=12
 ·have hT:=fun W=>Qee s Qgf W hs aJ aJ;simp only[Qli]at hT;have HT:=Aa hT;have hn:Dt s=s.all Co:=by simp[Dt,h3]
  have Hn:=Aa hn;have t0:decide ((s.length:Int)<=12)=true:=aM;clear hn hT;go_enter func183,ntmps183;go_wp2_with fail;refine(HT.o _).mono ?_;rintro e w' ⟨⟨r,rfl,hr⟩,hb⟩;cases r with
  |nil=>
   have Hr:=Aa (hr.1 rfl);clear hr;go_wp2_with fail;exact km
  |cons x r=>
   have Hr:=Aa (show s.all Co=false by
    cases h:s.all Co with
    |false=>rfl
    |true=>exact absurd (hr.2 h) aK)
   clear hr;go_wp2_with fail;exact km
 have Hn:=Aa (show Dt s=false by simp[Dt,h3]);have t0:decide ((s.length:Int)<=12)=false:=aM;go_enter func183,ntmps183;go_wp2_with fail;exact kq
def pnV(s:List UInt8)(m:Nat):Value:=
 match Cx s with
 |none=>.tuple #[.int .i64 0,.bool false]
 |some n=>.tuple #[.int .i64 n,.bool (decide (n<=m))]
theorem Si{s:List UInt8}{m:Nat}(h:Cx s=none):pnV s m=.tuple #[.int .i64 0,.bool false]:=by unfold pnV;rw[h]
theorem Yc{s:List UInt8}{m n:Nat}(h:Cx s=some n):pnV s m=.tuple #[.int .i64 n,.bool (decide (n<=m))]:=by unfold pnV;rw[h]
theorem Qb3(s:List UInt8)(k:Nat)(hk:k<=6)(h:(s.take k).all Bl=true):Gv (s.take k)<=999999:=by
 exact jQ
theorem Jg(s:List UInt8)(m:Nat)(w:World)(hs:s.length<=9223372036854775807)(hm:m<=999999):
  Calls prog 186 #[s,.int .i64 m] w fun e w'=>e=.returned (pnV s m)/\w=w':=by
 rcases aG s.length 1 with h1|h1
 ·obtain rfl:s=[]:=List.eq_nil_of_length_eq_zero aH;have Hn:=Aa (Si (m:=m) (show Cx []=none by rfl));go_enter func186,ntmps186;go_wp2_with fail;go_ret2;exact kt
 rcases aG 6 s.length with h6|h6
 ·have Hn:=Aa (Si (m:=m) (show Cx s=none by unfold Cx;rw[if_neg];rintro⟨_,h,_⟩;omega));go_enter func186,ntmps186;go_wp2_with fail;go_ret2;exact kt
 have hc0:=(s[0]' aH).toNat_lt;have h3:(s[0]' aH=48/\1<s.length)\/((((s[0]' aH).toNat:Int) == 48)=true/\s.length<=1)\/((((s[0]' aH).toNat:Int) == 48)=false):=by
  by_cases h:s[0]' aH=48
  ·rcases aG 1 s.length with h'|h'
   ·exact .inl ⟨h,h'⟩
   exact .inr (.inl ⟨Bj h,h'⟩)
  exact .inr (.inr (Ap h))
 have hhd:(s.head?≠some 48\/s.length=1)\/(s[0]' aH=48/\1<s.length):=by
  rcases h3 with h|⟨_,h⟩|h
  ·exact .inr h
  ·exact .inl (.inr aH)
  refine .inl (.inl ?_);rw[List.head?_eq_getElem?,List.getElem?_eq_getElem aH];intro e;injection e with e;rw[e]at h;exact absurd h aJ
 have Hhd:=Aa hhd;clear hhd;rcases h3 with⟨hz,hl⟩|⟨t0,hl⟩|t0
 ·have Hn:=Aa (Si (m:=m) (show Cx s=none by
   unfold Cx;rw[if_neg];rintro⟨_,_,_,h|h⟩
   ·apply h;rw[List.head?_eq_getElem?,List.getElem?_eq_getElem aH,hz]
   omega))
  have t0:(((s[0]' aH).toNat:Int) == 48)=true:=Bj hz;have Hz:=Aa hz;go_enter func186,ntmps186;go_wp2_with fail;go_ret2;exact kt
 all_goals
  have Hall:Hid (s.head?≠some 48\/s.length=1):=by
   rcases Hhd.o with h|⟨e,h⟩
   ·exact h
   exfalso
   first
    |omega
    |(rw[e]at t0;exact absurd t0 aJ)
  clear Hhd;go_enter func186,ntmps186;go_wp2_with fail;go_loop [6,28] (fun x i=>∃k:Nat,i=.int .i64 k/\k<=s.length/\Hid ((s.take k).all Bl=true)/\Gv (s.take k)<=999999/\x=.int .i64 ((Gv (s.take k):Nat):Int)) (fun _ i=>s.length - (intOf i).toNat)
  case atStart=>exact⟨0,rfl,ag _,by simp[Hid],by simp[Gv],by simp[Gv]⟩
  case round=>
   obtain⟨k,rfl,hk,hdig,hv,rfl⟩:=hrel;by_cases hlt:k<s.length
   ·have hc:=(s[k]).toNat_lt;have Hts:=Aa (Cb s k hlt);by_cases hd:Bl s[k]=true
    ·have hd2:=Dv.1 hd;obtain⟨d1,d2⟩:=hd2;have hdig2:(s.take (k+1)).all Bl=true:=by
      rw[Hts.o,List.all_append,hdig.o];simp[hd]
     have hv2:=Qb3 s (k+1) aH hdig2;have Hdig2:=Aa hdig2;have Hv:=Aa (show Gv (s.take (k+1))=10*Gv (s.take k)+((s[k]).toNat - 48)by rw[Hts.o,Mf]);clear hd hdig2;go_wp2_with fail;go_round
     case rel=>exact⟨k+1,by go_num,by omega,Hdig2.o,hv2,Qlb (by rw[Hv.o];omega)⟩
     case measure=>simp[intOf];omega
    have Hn:=Aa (Si (m:=m) (show Cx s=none by
     unfold Cx;rw[if_neg];rintro⟨_,_,h,_⟩;exact hd (List.all_eq_true.1 h _ (ae hlt))))
    have h2:(s[k]).toNat<48\/(48<=(s[k]).toNat/\57<(s[k]).toNat):=by
     rcases aG (s[k]).toNat 48 with h|h
     ·exact .inl h
     rcases aG 57 (s[k]).toNat with h'|h'
     ·exact .inr ⟨h,h'⟩
     exact absurd (Dv.2 ⟨h,h'⟩) hd
    clear hd;rcases h2 with h2|⟨h2,h4⟩
    ·go_wp2_with fail;go_ret2;exact kt
    go_wp2_with fail;go_ret2;exact kt
   ·have e:s.take k=s:=au aH
    have Hn:=Aa (Yc (m:=m) (show Cx s=some (Gv (s.take k))by
     have hd:=hdig.o;rw[e]at hd ⊢;unfold Cx;rw[if_pos ⟨by omega,by omega,hd,Hall.o⟩]))
    clear e;generalize Gv (s.take k)=v at hv Hn;by_cases hvm:v<=m
    ·go_wp2_with fail;go_ret2;exact⟨by rw[Hn.o];exact Qlv rfl (Cz (by simp[hvm])),rfl⟩
    go_wp2_with fail;go_ret2;exact⟨by rw[Hn.o];exact Qlv rfl (Cz aM),rfl⟩
theorem Ah{B:Nat}{w w':World}{b o:Nat}{cs:List Value}(h:w.rangeAt b o cs)(hb:b<B)(hw:Below B w w'):w'.rangeAt b o cs:=fun j v hv=>(hw.cell (p:=⟨b,o+j,none⟩) hb).trans (h j v hv)
theorem Aj{B:Nat}{w w':World}{b o n:Nat}(h:w.there b o n)(hb:b<B)(hw:Below B w w'):w'.there b o n:=fun j hj=>by
 rw[hw.cell (p:=⟨b,o+j,none⟩) hb,hw.frozen (p:=⟨b,o+j,none⟩) hb];exact h j hj
theorem C0{w w':World}{b o:Nat}{cs:List Value}{row:Option Nat}(h:w.rangeAt b o cs)(hg:w.grownBy w' row)(hne:some b≠row):w'.rangeAt b o cs:=fun j v hv=>hg.cell (h j v hv) hne
theorem Eu{w w':World}{b o n:Nat}{row:Option Nat}(h:w.there b o n)(hg:w.grownBy w' row)(hb:b<w.heap.size)(hne:some b≠row):w'.there b o n:=fun j hj=>by
 rw[hg.cell_far ⟨b,o+j,none⟩ hb hne,hg.frozen_far ⟨b,o+j,none⟩ hb hne];exact h j hj
theorem Mg{w:World}{b o n:Nat}(h:w.there b o n)(p m:Nat)(h1:o<=p)(h2:p+m<=o+n):w.there b p m:=fun j hj=>by
 have:=h (p+j - o) aH;rwa [show o+(p+j - o)=p+j by omega]at this
theorem Bo(w:World)(cs:List Value)(t:TypeId):(w.alloc (.cells cs.toArray t)).rangeAt w 0 cs:=fun j v hv=>by
 rw[World.cell?_alloc_new];simpa using hv
theorem Bz(w:World)(cs:List Value)(t:TypeId):(w.alloc (.cells cs.toArray t)).there w 0 cs.length:=fun j hj=>by
 refine⟨?_,by simp⟩;rw[World.cell?_alloc_new];simp;omega
theorem Ai{B:Nat}{a:World}(b:Nat)(hb:B<=b):∀(vs:List Value) (o:Nat) (w:World),Below B a w->Below B a (w.setCells b o vs)
 |[],_,_,h=>h
 |v::r,o,w,h=>Ai b hb r (o+1) _ (h.setCell hb v)
theorem Ch(b:Nat):∀(vs:List Value) (o:Nat) (w:World),(w.setCells b o vs).heap.size=w.heap.size
 |[],_,_=>rfl
 |v::r,o,w=>by rw[World.setCells,Ch b r];simp
theorem Ab{w:World}{b o:Nat}{cs:List Value}(h:w.rangeAt b o cs)(j:Nat){v:Value}(hv:cs[j]?=some v):w.cell? ⟨b,o+j,none⟩=some v:=h j v hv
theorem Qb5{w:World}{b o:Nat}(l1 l2 l3:List Value)(h:w.rangeAt b o (l1++(l2++l3))):w.rangeAt b (o+l1.length) l2:=fun j v hv=>by
 have hj:=(List.getElem?_eq_some_iff.1 hv).1;rw[Nat.add_assoc];exact h _ v (by rw[List.getElem?_append_right aH,Nat.add_sub_cancel_left,List.getElem?_append_left hj];exact hv)
theorem Cm{w:World}{b:Nat}(l1 l2 l3 l2':List Value)(h:w.rangeAt b 0 (l1++(l2++l3)))(hl:l2'.length=l2.length):(w.setCells b l1.length l2').rangeAt b 0 (l1++(l2'++l3)):=fun j v hv=>by
 have hjl:j<l1.length+(l2'.length+l3.length):=by
  have:=(List.getElem?_eq_some_iff.1 hv).1;simpa using this
 have hsome:∀i,i<l2'.length->(w.cell? ⟨b,l1.length+i,none⟩).isSome=true:=fun i hi=>by
  have e:(l1++(l2++l3))[l1.length+i]?=some (l2[i]' aH):=by
   rw[List.getElem?_append_right aH,List.getElem?_append_left aH,Nat.add_sub_cancel_left,List.getElem?_eq_getElem aH]
  have:=h _ _ e;rw[am]at this;rw[this];rfl
 rw[am];rcases aG j l1.length with h1|h1
 ·rw[World.cell?_setCells_out b l2' l1.length w ⟨b,j,none⟩ (fun _ _=>.inl h1)];rw[List.getElem?_append_left h1]at hv;have:=h j v (by rw[List.getElem?_append_left h1];exact hv);rwa [am]at this
 rw[List.getElem?_append_right h1]at hv;rcases aG (j - l1.length) l2'.length with h2|h2
 ·rw[List.getElem?_append_left h2,List.getElem?_eq_getElem h2]at hv;have:=World.cell?_setCells_in b l2' l1.length w hsome (j - l1.length) h2;rw[show l1.length+(j - l1.length)=j by omega]at this;rw[this];exact hv
 rw[World.cell?_setCells_out b l2' l1.length w ⟨b,j,none⟩ (fun _ _=>.inr (by show l1.length+l2'.length<=j;omega))];rw[List.getElem?_append_right h2]at hv;have:=h j v (by rw[List.getElem?_append_right h1,List.getElem?_append_right aH,<-hl];exact hv);rwa [am]at this
section
variable {P:Program}
theorem Af{ops:Array Oper}{rest:List Oper}{op:Oper}{a:Act}{w:World}{Q:Exit->Act->World->Prop}(hgd:op.guard=none)(ty:TypeId)(x y:Operand)(ho:op.op=.store ty x y)
  (b o:Nat) (cs:List Value) (hx:a.eval x=.pointer (some ⟨b,o,none⟩)) (hy:a.eval y=.agg cs.toArray)
  (ht:w.there b o cs.length) (hi:(P.info? ty).map (·.size)=some cs.length) (h1:∀v∈cs,v.oneCell'=true)
  (h:∀w',Hid (w'=w.setCells b o cs)->wpList P ops Q rest (a.put op.dst undef) w'):wpList P ops Q (op::rest) a w:=
 wpList_store_mid hgd ty x y ho b o cs.toArray hx hy f9 eZ (all_oneCell_toArray h1) (h _ rfl)
theorem As{fn:Func}{p q:Tmp}{ty:TypeId}(h:fn.results=#[.cell p ty,.tmp q])(tmps:Array Value)(w:World)(b:Nat)(cs:List Value)(d:TypeDesc)(x:Value)
  (hp:tmps.getD p undef=b) (hq:tmps.getD q undef=x) (hc:w.rangeAt b 0 cs) (hu:P.underlying ty=some d) (hd:d.isRow=true) (hi:(P.info? ty).map (·.size)=some cs.length):
  (results fn tmps).run P w=.ok (.tuple #[.agg cs.toArray,x]) w:=by
 have hp':tmps[p]?.getD undef=b:=ef;have hq':tmps[q]?.getD undef=x:=f7;simp[results,h,hp',hq',asAddr,run_loadVar_mid w b 0 ty cs d hc hu hd hi]
theorem Eb{fn:Func}{r p q:Tmp}{ty:TypeId}(h:fn.results=#[.tmp r,.cell p ty,.tmp q])(tmps:Array Value)(w:World)(b:Nat)(cs:List Value)(d:TypeDesc)(y x:Value)
  (hr:tmps.getD r undef=y) (hp:tmps.getD p undef=b) (hq:tmps.getD q undef=x) (hc:w.rangeAt b 0 cs) (hu:P.underlying ty=some d) (hd:d.isRow=true) (hi:(P.info? ty).map (·.size)=some cs.length):
  (results fn tmps).run P w=.ok (.tuple #[y,.agg cs.toArray,x]) w:=by
 have hp':tmps[p]?.getD undef=b:=ef;have hq':tmps[q]?.getD undef=x:=f7;have hr':tmps[r]?.getD undef=y:=dz;simp[results,h,hp',hq',hr',asAddr,run_loadVar_mid w b 0 ty cs d hc hu hd hi]
end
theorem Q6(n:Nat)(w:World)(hn:n<10):
  Calls prog 93 #[.int .i64 n] w fun e w'=>e=.returned (.string ⟨(Ba n).toArray⟩)/\Below w w w':=by
 have Hfin:=Aa (E9 hn);have hcv:=fun W=>Kz W w 1 (C5 (48+n));rw[Df aH]at hcv;go_enter func93,ntmps93;go_wp2_with fail;exact jN
theorem Qj:∀(k n:Nat) (w:World),n<=k->n<=1000000000 ->
  Calls prog 93 #[.int .i64 n] w fun e w'=>e=.returned (.string ⟨(Ba n).toArray⟩)/\Below w w w':=by
 intro k;induction k with
 |zero=>intro n w hn h;exact Q6 n w aH
 |succ k ih=>
  intro n w hn h;by_cases h10:n<10
  ·exact Q6 n w h10
  have Hfin:=Aa (Pa h10);have Hs:=Aa (E9 (show n % 10<10 by omega));have Ih:=Aa (fun W=>ih (n / 10) W aH aH);have hl:=Da 8 (n / 10) gh;have e1:((n:Int) / 10)=((n / 10:Nat):Int):=aH;have e2:((n:Int) % 10)=((n % 10:Nat):Int):=aH;have E1:=Aa e1;have E2:=Aa e2;clear ih e1 e2;go_enter func93,ntmps93;go_wp2_with fail;rw[E1.o];refine(Ih.o _).mono ?_;rintro e w1 ⟨rfl,hb1⟩;have Hb1:=Aa hb1;clear hb1;go_wp2_with fail;rw[E2.o];refine(Q6 (n % 10) w1 aH).mono ?_;rintro e w2 ⟨rfl,hb2⟩;have Hb2:=Aa (Hb1.o.trans (hb2.mono Hb1.o.size));rw[Hs.o];clear hb2;go_wp2_with fail;go_ret;exact⟨by rw[Hfin.o];rfl,Hb2.o⟩
def Qmk(b:List UInt8):Prop:=b=[110]\/b=[116]\/b=[102]\/b=[64]
theorem Qhk{s:List UInt8}:Cg [110] s=(match Cx s with|some n=>decide (0<n)|none=>false):=rfl
theorem Qhp{s:List UInt8}:Cg [116] s=(decide (2<s.length) && decide (s.head?=some 39) && decide (s.getLast?=some 39) && Dt (s.drop 1).dropLast):=rfl
theorem Qij{s:List UInt8}:Cg [102] s=decide (s=[121,101,115]):=rfl
theorem Qf4(s:List UInt8)(w:World)(hs:s.length<=4000000):
  Calls prog 216 #[.string ⟨#[110]⟩,s] w fun e w'=>e=.returned (.bool (Cg [110] s))/\Below w w w':=by
 have Hp:=Aa (fun W=>Jg s 999999 W aH aH);have Hf:=Aa (Qhk (s:=s));cases hd:Cx s with
 |none=>
  rw[hd]at Hf;have Hv:=Aa (Si (m:=999999) hd);clear hd;go_enter func216,ntmps216;go_wp2_with fail;refine(Hp.o _).mono ?_;rintro e w' ⟨rfl,rfl⟩;rw[Hv.o];go_wp2_with fail;go_ret;exact⟨Em (Cz Hf.o.symm),Ao _ _⟩
 |some n=>
  rw[hd]at Hf;have h9:=(Cl.1 hd).1;have Hv:=Aa (Yc (m:=999999) hd);have t1:decide (n<=999999)=true:=by simp;exact h9
  clear hd;rcases aG 0 n with hn|hn;all_goals
   go_enter func216,ntmps216;go_wp2_with fail;refine(Hp.o _).mono ?_;rintro e w' ⟨rfl,rfl⟩;rw[Hv.o,t1];go_wp2_with fail;go_ret;exact⟨Em (Cz (by rw[Hf.o];first|done|(simp;try omega))),Ao _ _⟩
theorem Qfv(s:List UInt8)(w:World)(hs:s.length<=4000000):
  Calls prog 216 #[.string ⟨#[102]⟩,s] w fun e w'=>e=.returned (.bool (Cg [102] s))/\Below w w w':=by
 have Hf:=Aa (Qij (s:=s));by_cases hy:s=[121,101,115]
 ·subst hy;go_enter func216,ntmps216;go_wp2_with fail;go_ret;exact⟨Em (Cz (by rw[Hf.o];simp)),Ao _ _⟩
 have Hy:=Aa (show decide (s=[121,101,115])=false by simpa using hy);have ty:(s == [121,101,115])=false:=eh;clear hy;go_enter func216,ntmps216;go_wp2_with fail;go_ret;exact⟨Em (Cz (by rw[Hf.o,Hy.o])),Ao _ _⟩
theorem Qdr(s:List UInt8)(w:World):
  Calls prog 216 #[.string ⟨#[64]⟩,s] w fun e w'=>e=.returned (.bool (Cg [64] s))/\Below w w w':=by
 go_enter func216,ntmps216;go_wp2_with fail;exact kx
theorem Qfc(s:List UInt8)(w:World)(hs:s.length<=4000000):
  Calls prog 216 #[.string ⟨#[116]⟩,s] w fun e w'=>e=.returned (.bool (Cg [116] s))/\Below w w w':=by
 have hf:=Qhp (s:=s);rcases aG 2 s.length with h2|h2
 ·obtain⟨c,u,d,rfl⟩:∃c u d,s=c::(u++[d]):=by
   cases s with
   |nil=>simp at h2
   |cons c t=>
    rcases Fk t with rfl|⟨u,d,rfl⟩
    ·simp at h2
    exact⟨c,u,d,rfl⟩
  have hl:(c::(u++[d])).getLast?=some d:=by
   exact jL
  have hu:((c::(u++[d])).drop 1).dropLast=u:=aK;rw[hl,hu]at hf;have t0:decide (2<(c::(u++[d])).length)=true:=eY;rw[t0]at hf;simp only[List.head?_cons,aj,Bool.true_and]at hf;have Hf:=Aa hf;have hc:=c.toNat_lt;have hd:=d.toNat_lt;have hgd:∀h,(c::(u++[d]))[u.length+1]'h=d:=by intro h;simp
  have hsl:(List.take u.length (u++[d]))=u:=aK;have hul:2<=u.length+1:=by simp at h2;omega
  have hul2:u.length<=4000000:=gE;clear hf hl hu h2 hs t0;by_cases hc39:c=39
  ·have t1:((c.toNat:Int) == 39)=true:=Bj hc39;have Hc:=Aa (show decide (c=39)=true by simpa using hc39);clear hc39;by_cases hd39:d=39
   ·have t2:((d.toNat:Int) == 39)=true:=Bj hd39;have Hd:=Aa (show decide (d=39)=true by simpa using hd39);clear hd39;go_enter func216,ntmps216;go_wp2_with fail;refine(Qfq u _ aH).mono ?_;rintro e w' ⟨rfl,hb⟩;go_wp2_with fail;go_ret;exact⟨Em (Cz (by rw[Hf.o,Hc.o,Hd.o];simp)),hb⟩
   have t2:((d.toNat:Int) == 39)=false:=Ap hd39;have Hd:=Aa (show decide (d=39)=false by simpa using hd39);clear hd39;go_enter func216,ntmps216;go_wp2_with fail;go_ret;exact⟨Em (Cz (by rw[Hf.o,Hd.o];simp)),Ao _ _⟩
  have t1:((c.toNat:Int) == 39)=false:=Ap hc39;have Hc:=Aa (show decide (c=39)=false by simpa using hc39);clear hc39;go_enter func216,ntmps216;go_wp2_with fail;go_ret;exact⟨Em (Cz (by rw[Hf.o,Hc.o];simp)),Ao _ _⟩
 have e0:decide (2<s.length)=false:=aM;have Hf:=Aa (show Cg [116] s=false by rw[hf,e0];simp);clear e0;have t0:decide (2<(s.length:Int))=false:=aM;clear hf;go_enter func216,ntmps216;go_wp2_with fail;go_ret;exact⟨Em (Cz Hf.o.symm),Ao _ _⟩
theorem Qbn(b s:List UInt8)(w:World)(hb:Qmk b)(hs:s.length<=4000000):
  Calls prog 216 #[b,s] w fun e w'=>e=.returned (.bool (Cg b s))/\Below w w w':=by
 rcases hb with rfl|rfl|rfl|rfl
 ·exact Qf4 s w hs
 ·exact Qfc s w hs
 ·exact Qfv s w hs
 exact Qdr s w
abbrev C9:=Cn × Cn
def Xo(S T:List Ty)(K:Kd->Kd->List C9->Bool × List C9)(t:Ty)(st:UInt8):List Fd->List C9->Bool × List C9
 |[],m=>(true,m)
 |g::gs,m=>match Au t.fields g.tag with
  |none=>if st=82 then Xo S T K t st gs m else(false,m)
  |some f=>if st=69 then Xo S T K t st gs m else
    if (K f.kind g.kind m).1=false then(false,(K f.kind g.kind m).2)
    else if st=82/\G9 S f≠G9 T g then(false,(K f.kind g.kind m).2)
    else Xo S T K t st gs (K f.kind g.kind m).2
def evT(S T:List Ty)(K:Kd->Kd->List C9->Bool × List C9)(t u:Ty)(m:List C9):Bool × List C9:=
 if t.sort≠u.sort then(false,m)else Xo S T K t u.sort u.fields m
def J2(S T:List Ty):Nat->Kd->Kd->List C9->Bool × List C9
 |0,_,_,m=>(true,m)
 |n+1,a,b,m=>
  if a.signs≠b.signs\/a.base≠b.base then(false,m)
  else if a.base≠[64]then(true,m)
  else match Bk S a.name,Bk T b.name with
   |some t,some u=>if (a.name,b.name)∈m then(true,m)else evT S T (J2 S T n) t u (m++[(a.name,b.name)])
   |_,_=>(false,m)
def Kt(S T:List Ty)(m:List C9):Prop:=m.Nodup/\∀p∈m,p.1∈Fu S/\p.2∈Fu T
theorem Kt.nil(S T:List Ty):Kt S T []:=⟨List.nodup_nil,by simp⟩
theorem Kt.snoc{S T:List Ty}{m:List C9}{a b:Cn}(h:Kt S T m)(ha:a∈Fu S)(hb:b∈Fu T)(hn:(a,b)∉m):Kt S T (m++[(a,b)]):=by
 refine⟨?_,?_⟩
 ·rw[List.nodup_append];refine⟨h.1,by simp,?_⟩;intro x hx y hy;simp only[aq]at hy;subst hy;rintro rfl;exact hn hx
 intro p hp;rcases af.1 hp with hp|hp
 ·exact h.2 p hp
 simp only[aq]at hp;subst hp;exact⟨ha,hb⟩
theorem Qd1:∀(l m:List C9),l.Nodup->(∀x∈l,x∈m)->l.length<=m.length
 |[],m,_,_=>aK
 |x::l,m,hn,hs=>by
  have hx:=hs x aK;have:=Qd1 l (m.erase x) (List.nodup_cons.1 hn).2 (fun y hy=>(List.mem_erase_of_ne (by rintro rfl;exact(List.nodup_cons.1 hn).1 hy)).2 (hs y gk));rw[List.length_erase_of_mem hx]at this;have:=List.length_pos_of_mem hx;simp only[List.length_cons];omega
def Qc9(a b:List Cn):List C9:=a.flatMap fun x=>b.map fun y=>(x,y)
theorem Qbi(b:List Cn):∀a,(Qc9 a b).length=a.length*b.length
 |[]=>by simp[Qc9]
 |x::a=>by
  have:=Qbi b a;unfold Qc9 at this ⊢;rw[List.flatMap_cons,ah,List.length_map,this,List.length_cons,Nat.add_mul];omega
theorem Kt.len{S T:List Ty}{m:List C9}(h:Kt S T m):m.length<=S.length*T.length:=by
 have:=Qd1 m (Qc9 (Fu S) (Fu T)) h.1 (fun x hx=>by
  obtain⟨a,b⟩:=x;have:=h.2 _ hx;unfold Qc9;rw[List.mem_flatMap];exact⟨a,this.1,ax.2 ⟨b,this.2,rfl⟩⟩)
 rw[Qbi]at this;simpa [Fu]using this
def Qi2(S T:List Ty)(K:Kd->Kd->List C9->Bool × List C9):Prop:=∀a b m,Kt S T m->Kt S T (K a b m).2/\∃l,(K a b m).2=m++l
theorem Mh{S T:List Ty}{K:Kd->Kd->List C9->Bool × List C9}(hK:Qi2 S T K)(t:Ty)(st:UInt8):∀(gs:List Fd) (m:List C9),Kt S T m->Kt S T (Xo S T K t st gs m).2/\∃l,(Xo S T K t st gs m).2=m++l
 |[],m,h=>⟨h,[],by simp[Xo]⟩
 |g::gs,m,h=>by
  unfold Xo;cases Au t.fields g.tag with
  |none=>
   simp only;split
   ·exact Mh hK t st gs m h
   exact⟨h,[],by simp⟩
  |some f=>
   simp only;split
   ·exact Mh hK t st gs m h
   obtain⟨h1,l1,e1⟩:=hK f.kind g.kind m h;split
   ·exact⟨h1,l1,e1⟩
   split
   ·exact⟨h1,l1,e1⟩
   obtain⟨h2,l2,e2⟩:=Mh hK t st gs _ h1;exact⟨h2,l1++l2,by rw[e2,e1,List.append_assoc]⟩
theorem Nu(S T:List Ty):∀n,Qi2 S T (J2 S T n)
 |0=>fun a b m h=>⟨h,[],by simp[J2]⟩
 |n+1=>fun a b m h=>by
  unfold J2;split
  ·exact⟨h,[],by simp⟩
  split
  ·exact⟨h,[],by simp⟩
  cases hs:Bk S a.name with
  |none=>exact⟨h,[],by simp⟩
  |some t=>cases ht:Bk T b.name with
   |none=>exact⟨h,[],by simp⟩
   |some u=>
    simp only;split
    ·exact⟨h,[],by simp⟩
    rename_i hn;have h1:=h.snoc (Gi.1 (by rw[hs];rfl)) (Gi.1 (by rw[ht];rfl)) hn;unfold evT;split
    ·exact⟨h1,_,rfl⟩
    obtain⟨h2,l2,e2⟩:=Mh (Nu S T n) t u.sort u.fields _ h1;exact⟨h2,[(a.name,b.name)]++l2,by rw[e2];simp⟩
def Jk(S T:List Ty)(a b:Kd):Bool:=(J2 S T 65 a b []).1
def Ge(x y:Option (List Ty × Kd)):Bool:=match x,y with
 |some (S,a),some (T,b)=>Jk S T a b
 |_,_=>false
theorem Z4{fs:List Fd}{n:Nat}{f:Fd}(h:Au fs n=some f):f∈fs:=List.mem_of_find?_eq_some h
theorem Fq{st:UInt8}{f:Fd}(h:Tj st f):f.given.length<=14:=by
 by_cases hs:st=69
 ·rw[(h.2.2.2.1 hs).2];simp
 by_cases hg:f.given=[]
 ·rw[hg];simp
 have:=((h.2.2.2.2 hs).2 hg).2.2
 unfold Cg at this
 split at this
 ·split at this
  ·rename_i n hd
   have:=Cl.1 hd
   rw[this.2]
   have:=Da 5 n (by have e:10 ^ (5+1)=1000000:=rfl;omega)
   omega
  cases this
 split at this
 ·simp only[Bool.and_eq_true,decide_eq_true_eq]at this
  have h4:=this.2
  unfold Dt at h4
  simp only[Bool.and_eq_true,decide_eq_true_eq,List.length_dropLast,List.length_drop]at h4
  omega
 split at this
 ·simp only[decide_eq_true_eq]at this;rw[this];simp
 cases this
end
end Go.Proofs.YtmmhmlmfhpfgbaaGreatDoor
