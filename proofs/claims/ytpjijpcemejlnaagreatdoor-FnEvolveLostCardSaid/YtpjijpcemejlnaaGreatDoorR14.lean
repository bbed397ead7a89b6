/- Texts joined. Conditions: as each theorem names them. -/
import Derived.Laws.Append
import Derived.Maps.OwnSet
import Derived.Maps.OwnOps
import Derived.StringKeys
import Derived.Shelf.Strings.SlTrimAscii
import Derived.Shelf.Strings.Prefix
import Derived.Shelf.Strings.Search3
import Derived.Shelf.Strings.Count
import Derived.Shelf.Strings.OnBuilder
import Derived.Test.YtpjijpcemejlnaaGreatDoorProg
import Derived.Lib.IndexLaws
import Derived.Deep.MidRow
import Derived.Deep.AppendLies
import Derived.Test.YtpjijpcemejlnaaGreatDoorR13
set_option maxRecDepth 100000
set_option maxHeartbeats 32000000
set_option linter.unusedVariables false
set_option linter.unusedSimpArgs false
namespace Go.Proofs.YtpjijpcemejlnaaGreatDoor
open Go.RowKit Go.Proofs.Tryz
section
attribute [local go_sem] Qm0 Ql8 Qlz Qj6 ByteArray.mk_append_mk
theorem Z6(s:List UInt8)(w:World)(hs:s.length<=4000000):
  Calls prog 114 #[s] w fun e w'=>e=.returned (.bool (Cb s).isSome)/\Below w w w':=by
 have H:=Aa (fun W=>S8 s W hs);generalize Cb s=o at *;go_enter func114,ntmps114;go_wp2_with fail;refine(H.o _).mono ?_;rintro e w1 ⟨hc,hb⟩;have Hb:=Aa hb;clear hb;cases o with
 |none=>
  obtain⟨A,n,c,rfl⟩:=hc;go_wp2_with fail;go_ret;exact⟨rfl,Hb.o⟩
 |some S=>
  obtain⟨v,xs,rfl,_,_⟩:=hc;go_wp2_with fail;go_ret;exact⟨rfl,Hb.o⟩
def Qa9:List (List UInt8):=[[82],[85],[85],[69]]
def Xs:List (List UInt8):=[[82],[69],[85]]
def Eg:List (List UInt8):=[[],[44],[58],[49],[10]]
def Zq:List (List UInt8):=[[64,97,59],[64,97,59],[64,97,59],[64,98,59],[64,99,59],[91,110],[63,64,97,59],[110],[116],[91,64,98,59],[63,91,102]]
def X7:List UInt8:=[82,97,61,49,58,112,58,110,61,53,44,50,58,113,58,91,116,44,52,58,114,58,63,64,97,59,44,53,58,115,58,64,98,59,10,85,98,61,49,58,112,58,110,44,51,58,113,58,64,97,59,10,69,99,61,49,58,112,44,50,58,113,10]
def DSc(l:List UInt8):Prop:=l.length<=270/\Y8 l
def Tm(l:List UInt8):Prop:=l.length<=264/\1<=l.length/\∃st,mach (0,0) l=some st
theorem Tm.three{a b c:List UInt8}(ha:Fj a/\a.length<=88/\1<=a.length)(hb:Fj b/\b.length<=88/\1<=b.length)(hc:Fj c/\c.length<=88/\1<=c.length):Tm (a++b++c):=by
 obtain⟨u,e,_⟩:=((ha.1.app hb.1).app hc.1) 0 aI;exact⟨by simp only[ai];omega,by simp only[ai];omega,_,e⟩
theorem Tm.plain:Tm X7:=⟨by decide,by decide,(0,0),by decide⟩
theorem Tm.o{l:List UInt8}(h:Tm l):DSc l:=⟨by have:=h.1;omega,by obtain⟨_,_,st,e⟩:=h;exact Y8.of_mach e⟩
theorem Tm.turned{l i:List UInt8}{k:Nat}(h:Tm l)(hk:k<l.length)(hi:i∈Eg):DSc (l.take k++(i++l.drop (k+1))):=by
 obtain⟨h1,_,s,e⟩:=h;have hil:i.length<=1:=(show ∀i∈Eg,i.length<=1 by decide) i hi;refine⟨by simp only[ai,List.length_take,List.length_drop];omega,?_⟩;have e2:l=l.take k++l[k]::l.drop (k+1):=by
  rw[List.getElem_cons_drop,List.take_append_drop]
 rw[e2]at e;refine Y8.turned e i ?_;have:i=[]\/i=[44]\/i=[58]\/i=[49]\/i=[10]:=by simpa [Eg]using hi
 rcases this with rfl|rfl|rfl|rfl|rfl
 ·exact .inl rfl
 ·exact .inr ⟨44,rfl,by decide,by decide⟩
 ·exact .inr ⟨58,rfl,by decide,by decide⟩
 ·exact .inr ⟨49,rfl,by decide,by decide⟩
 exact .inr ⟨10,rfl,by decide,by decide⟩
theorem Qf4{s:List UInt8}(h:s∈Qa9\/s∈Xs):∃c:UInt8,s=[c]/\(c=82\/c=85\/c=69):=by
 have hd:(∀s∈Qa9,s=[82]\/s=[85]\/s=[69])/\(∀s∈Xs,s=[82]\/s=[85]\/s=[69]):=aL;have:s=[82]\/s=[85]\/s=[69]:=h.elim (hd.1 s) (hd.2 s);rcases this with rfl|rfl|rfl
 ·exact⟨82,rfl,.inl rfl⟩
 ·exact⟨85,rfl,.inr (.inl rfl)⟩
 exact⟨69,rfl,.inr (.inr rfl)⟩
theorem Nq(g p:Nat)(w:World)(h:Et w g p)(hp:p<=1000000):
  Calls prog 64 #[g] w (To DSc w g p 170):=by
 have hgl:=h.lt;have HR:=Aa h;clear h;go_enter func64,ntmps64;go_wp2_with fail;refine(Qd g p 82 97 _ HR.o aI (.inl rfl) aL).mono ?_;rintro e w1 ⟨l1,q1,rfl,hl1,hq1,hR1,hg1⟩;have hg1l:=hR1.lt;have HR1:=Aa hR1;have Hg1:=Aa hg1;have Hl1:=Aa hl1;have l1l:=hl1.2.1;clear hR1 hg1 hl1 HR;go_wp2_with fail;refine(Bj g q1 4 _ (HR1.o.dalloc _) aI aI aI).mono ?_;rintro e w2 ⟨x,rfl,hx1,_,hR2,hg2⟩;have hx:x<Qa9.length:=by show x<4;omega
 obtain⟨s2,hsm,hcell⟩:=((H9.new w1 Qa9).grown hg2 aI).cell hx;obtain⟨c2,rfl,hc2⟩:=Qf4 (.inl hsm);have i1:(0:Int)<=(x:Int):=aI;have i2:(x:Int)<4:=aI;have HR2:=Aa hR2;have Hg2:=Aa (Ad Hg1.o (Ad (World.grownBy_alloc w1 _ (some g)) hg2));have Hc2:=Aa hc2;clear hR2 hg2 hsm hc2 HR1 Hg1;go_wp2_with fail;refine(Qd g (q1+1) c2 98 _ HR2.o aI Hc2.o aL).mono ?_;rintro e w3 ⟨l3,q3,rfl,hl3,hq3,hR3,hg3⟩;have hg3l:=hR3.lt;have HR3:=Aa hR3;have Hg3:=Aa (Ad Hg2.o hg3);have Hl3:=Aa hl3;have l3l:=hl3.2.1;clear hR3 hg3 hl3 HR2 Hg2 hcell;go_wp2_with fail;refine(Bj g q3 3 _ (HR3.o.dalloc _) aI aI aI).mono ?_;rintro e w4 ⟨y,rfl,hy1,_,hR4,hg4⟩;have hy:y<Xs.length:=by show y<3;omega
 obtain⟨s4,hsm,hcell⟩:=((H9.new w3 Xs).grown hg4 aI).cell hy;obtain⟨c4,rfl,hc4⟩:=Qf4 (.inr hsm);have j1:(0:Int)<=(y:Int):=aI;have j2:(y:Int)<3:=aI;have HR4:=Aa hR4;have Hg4:=Aa (Ad Hg3.o (Ad (World.grownBy_alloc w3 _ (some g)) hg4));have Hc4:=Aa hc4;clear hR4 hg4 hsm hc4 HR3 Hg3;go_wp2_with fail;refine(Qd g (q3+1) c4 99 _ HR4.o aI Hc4.o aL).mono ?_;rintro e w5 ⟨l5,q5,rfl,hl5,hq5,hR5,hg5⟩;have hg5l:=hR5.lt;have HR5:=Aa hR5;have Hg5:=Aa (Ad Hg4.o hg5);have l5l:=hl5.2.1;have Hs:=Aa (Tm.three Hl1.o Hl3.o hl5);have hsl:(l1++(l3++l5)).length<=264:=by simp only[ai];omega
 rw[List.append_assoc]at Hs;clear hR5 hg5 hl5 HR4 Hg4 hcell;have Hsok:=Aa (fun W=>Z6 (l1++(l3++l5)) W aI);go_wp2_with fail;refine(Hsok.o _).mono ?_;rintro e w6 ⟨rfl,hb6⟩;have HR6:=Aa (HR5.o.below hb6);have Hg6:=Aa (Ad Hg5.o (Ce hb6 (some g)));have hg6l:=HR6.o.lt;clear hb6 HR5 Hg5 Hl1 Hl3;generalize (Cb (l1++(l3++l5))).isSome=ok at *;cases ok with
 |true=>
  clear Hsok;generalize l1++(l3++l5)=s at hsl Hs ⊢;have hs1:1<=s.length:=Hs.o.2.1;go_wp2_with fail;refine(Bj g q5 24 _ HR6.o aI aI aI).mono ?_;rintro e w8 ⟨z,rfl,hz1,_,hR8,hg8⟩;have HR8:=Aa hR8;have Hg8:=Aa (Ad Hg6.o hg8);have hg8l:=hR8.lt;clear hR8 hg8 HR6 Hg6 hz1;by_cases hz0:z=0
  ·subst hz0;go_wp2_with fail;refine(Bj g (q5+1) _ _ HR8.o aI aI aI).mono ?_;rintro e w9 ⟨k,rfl,hk1,_,hR9,hg9⟩;have hk1:=hk1 aI;have hk:k<s.length:=aI;have i5:(0:Int)<=(k:Int):=aI;have i6:(k:Int)<(s.length:Int):=aI;obtain⟨q9,hq9,HR9⟩:∃q9,q9<=q5+2/\Hid (Et w9 g q9):=⟨_,by omega,Aa hR9⟩
   have Hg9:=Aa (Ad Hg8.o hg9);clear hR9 hg9 HR8 Hg8;have hwr:IntKind.i64.wrap ((k:Int)+1)=(k:Int)+1:=IntWalk.i64_in _ aI;go_wp2_with fail;refine Gd [38,39,40,41,42,43,44,45,46,47,48,49,50,51,2]
    (fun ix v W=>match ix with|0=>v=(s:List UInt8)|1=>v=(k:Int)|2=>v=(s.take k:List UInt8)|3=>∃b,v=.slice (some ⟨b,0,none⟩) 5 5|4=>v=g|5=>∃y:Nat,v=(y:Int)/\y<5|6=>∃b y,v=.pointer (some ⟨b,y,none⟩)|7=>∃i,i∈Eg/\v=.string ⟨i.toArray⟩|8=>∃i,i∈Eg/\v=.string ⟨(s.take k++i).toArray⟩|9=>v=(s:List UInt8)|10=>v=(k:Int)|11=>v=.int .i64 ((k:Int)+1)|12=>v=.string ⟨(s.drop (k+1):List UInt8).toArray⟩|13=>∃i,i∈Eg/\v=.string ⟨(s.take k++(i++s.drop (k+1))).toArray⟩|14=>∃i,i∈Eg/\v=.string ⟨(s.take k++(i++s.drop (k+1))).toArray⟩|_=>True)
    (fun L U W=>Et W g (if L 5=true then q9+1 else q9)/\w.grownBy W (some g)/\(L 3=true->∃b,U 3=.slice (some ⟨b,0,none⟩) 5 5/\b≠g/\H9 W b Eg)/\(L 6=true->∃b y,U 6=.pointer (some ⟨b,y,none⟩)/\b≠g/\y<5/\H9 W b Eg)) (⟨by simpa using HR9.o.ddrew,Ft Hg9.o,fun h=>Bool.noConfusion h,fun h=>Bool.noConfusion h⟩) ?_ ?_
   ·exact ij
   rintro L U W hL hφ hR;obtain⟨i,hi,e14⟩:=hφ 14 aL;simp only[e14];have hR0:Et W g (q9+1):=ig;have hG0:=hR.2.1;clear hφ hL hR;go_wp2_with fail;go_ret;exact⟨_,q9+1,rfl,Tm.turned Hs.o hk hi,by omega,hR0,hG0⟩
  have tz:((z:Int) == 0)=false:=aO;clear hz0;go_wp2_with fail;go_ret;exact⟨s,q5+1,rfl,Hs.o.o,by omega,HR8.o,Hg8.o⟩
 |false=>
  go_wp2_with fail;refine(Bj g q5 8 _ HR6.o aI aI aI).mono ?_;rintro e w7 ⟨u,rfl,hu1,_,hR7,hg7⟩;have HR7:=Aa hR7;have Hg7:=Aa (Ad Hg6.o hg7);have hg7l:=hR7.lt;clear hR7 hg7 HR6 Hg6 hu1;by_cases hu0:u=0
  ·subst hu0;clear Hsok;generalize l1++(l3++l5)=s at hsl Hs ⊢;have hs1:1<=s.length:=Hs.o.2.1;go_wp2_with fail;refine(Bj g (q5+1) 24 _ HR7.o aI aI aI).mono ?_;rintro e w8 ⟨z,rfl,hz1,_,hR8,hg8⟩;have HR8:=Aa hR8;have Hg8:=Aa (Ad Hg7.o hg8);have hg8l:=hR8.lt;clear hR8 hg8 HR7 Hg7 hz1;by_cases hz0:z=0
   ·exact il
   have tz:((z:Int) == 0)=false:=aO;clear hz0;go_wp2_with fail;exact lu
  have tu:(0:Int)<(u:Int):=aI;clear hu0 Hsok Hs hsl;have Hs:=Aa Tm.plain;have hsl:X7.length<=264:=aL;go_wp2_with fail;rw[show (#[82,97,61,49,58,112,58,110,61,53,44,50,58,113,58,91,116,44,52,58,114,58,63,64,97,59,44,53,58,115,58,64,98,59,10,85,98,61,49,58,112,58,110,44,51,58,113,58,64,97,59,10,69,99,61,49,58,112,44,50,58,113,10]:Array UInt8)=X7.toArray from rfl];generalize X7=s at *;have hs1:1<=s.length:=Hs.o.2.1;refine(Bj g (q5+1) 24 _ HR7.o aI aI aI).mono ?_;rintro e w8 ⟨z,rfl,hz1,_,hR8,hg8⟩;have HR8:=Aa hR8;have Hg8:=Aa (Ad Hg7.o hg8);have hg8l:=hR8.lt;clear hR8 hg8 HR7 Hg7 hz1;by_cases hz0:z=0
  ·exact il
  have tz:((z:Int) == 0)=false:=aO;clear hz0;go_wp2_with fail;exact lu
def DKs(l:List UInt8):Prop:=DK l\/l∈Zq\/l=[110]
theorem DKs.len{l:List UInt8}(h:DKs l):l.length<=15:=by
 rcases h with h|h|rfl
 ·exact h.len
 ·exact(show ∀l∈Zq,l.length<=15 by decide) l h
 decide
theorem Qcv(g p:Nat)(s:List UInt8)(w:World)(h:Et w g p)(hp:p<=10000000)(hs:s.length<=1000000):
  Calls prog 65 #[g,s] w (To DKs w g p 10):=by
 have hgl:=h.lt;have HR:=Aa h;clear h;go_enter func65,ntmps65;go_wp2_with fail;refine(Bj g p 30 _ HR.o aI aI aI).mono ?_;rintro e w1 ⟨x,rfl,hx1,_,hR1,hg1⟩;have HR1:=Aa hR1;have Hg1:=Aa hg1;have hg1l:=hR1.lt;clear hR1 hg1 HR hx1;by_cases hx0:x=0
 ·subst hx0;go_wp2_with fail;refine(Nk g (p+1) _ HR1.o aI).mono ?_;rintro e w2 ⟨l,q,rfl,hl,hq,hR2,hg2⟩;have HR2:=Aa hR2;have Hg2:=Aa (Ad Hg1.o hg2);have Hl:=Aa hl;clear hR2 hg2 hl HR1 Hg1;go_wp2_with fail;go_ret;exact⟨l,q,rfl,.inl Hl.o,by omega,HR2.o,Hg2.o⟩
 have tx:((x:Int) == 0)=false:=aO;clear hx0;go_wp2_with fail;refine(Bj g (p+1) 11 _ (HR1.o.dalloc _) aI aI aI).mono ?_;rintro e w2 ⟨y,rfl,hy1,_,hR2,hg2⟩;have hy:y<Zq.length:=by show y<11;omega
 obtain⟨k,hkm,hcell⟩:=((H9.new w1 Zq).grown hg2 aI).cell hy;have hkl:k.length<=15:=(show ∀l∈Zq,l.length<=15 by decide) k hkm;have i1:(0:Int)<=(y:Int):=aI;have i2:(y:Int)<11:=aI;have HR2:=Aa hR2;have Hg2:=Aa (Ad Hg1.o (Ad (World.grownBy_alloc w1 _ (some g)) hg2));have Hk:=Aa hkm;have Hkind:=Aa (fun W=>N8 s k W aI aI);generalize Az s k=o at Hkind;clear hR2 hg2 hkm HR1 Hg1 hy hy1;go_wp2_with fail;refine(Hkind.o _).mono ?_;rintro e w3 ⟨hc3,hb3⟩;have HR3:=Aa (HR2.o.below hb3);have Hg3:=Aa (Ad Hg2.o (Ce hb3 (some g)));clear hb3 HR2 Hg2 hcell;cases o with
 |none=>
  obtain⟨A,n,c,rfl⟩:=hc3;go_wp2_with fail;go_ret;exact⟨[110],p+1+1,rfl,.inr (.inr rfl),by omega,HR3.o,Hg3.o⟩
 |some z=>
  obtain⟨v,xs,rfl,_,_⟩:=hc3;go_wp2_with fail;go_ret;exact⟨k,p+1+1,rfl,.inr (.inl Hk.o),by omega,HR3.o,Hg3.o⟩
theorem Sx{w a b:World}{g:Nat}(h:Below w w a)(hg:a.grownBy b (some g))(hgb:w.heap.size<=g):Below w w b:=
 h.grown hg h.size (fun k hk=>by injection hk with hk;omega)
abbrev Cl:=List UInt8
def Tp(S:List Ty):Nat->Kd->List Cl->List Cl
 |0,_,out=>out
 |n+1,k,out=>
  if k.base=[64]/\k.name∉out then
   (match Bp S k.name with
    |none=>out++[k.name]
    |some t=>if t.sort=69 then out++[k.name]else t.fields.foldl (fun o f=>Tp S n f.kind o) (out++[k.name]))
  else out
def Fx(S:List Ty):List Cl:=S.map (·.name)
theorem Gg{S:List Ty}{n:Cl}:(Bp S n).isSome=true↔n∈Fx S:=by
 unfold Bp Fx;rw[List.find?_isSome];simp
def Qeh(S:List Ty)(out:List Cl):Prop:=out.Nodup/\∀x∈out,x∈Fx S
theorem Qeh.nil(S:List Ty):Qeh S []:=⟨List.nodup_nil,by simp⟩
theorem Qgb:∀(l m:List Cl),l.Nodup->(∀x∈l,x∈m)->l.length<=m.length
 |[],m,_,_=>ah _
 |x::l,m,hn,hs=>by
  obtain⟨h1,h2⟩:=List.nodup_cons.1 hn;have hx:=hs x aN
  have ih:=Qgb l (m.erase x) h2 (fun y hy=>by
   have hne:y≠x:=by rintro rfl;exact h1 hy
   exact(List.mem_erase_of_ne hne).2 (hs y fB))
  have hl:=List.length_erase_of_mem hx;have hp:0<m.length:=List.length_pos_iff.2 (by rintro rfl;cases hx);simp;omega
theorem Qeh.len{S:List Ty}{out:List Cl}(h:Qeh S out):out.length<=S.length:=by
 have:=Qgb out (Fx S) h.1 h.2;simpa [Fx]using this
theorem Qeh.snoc{S:List Ty}{out:List Cl}{x:Cl}(h:Qeh S out)(hx:x∈Fx S)(hn:x∉out):Qeh S (out++[x]):=by
 refine⟨?_,?_⟩
 ·rw[List.nodup_append];refine⟨h.1,by simp,?_⟩;intro a ha b hb;simp at hb;subst hb;rintro rfl;exact hn ha
 intro y hy;rcases ag.1 hy with hy|hy
 ·exact h.2 y hy
 simp at hy;subst hy;exact hx
theorem Xr(fs:List Fd):∀y∈fs.flatMap Ky,y.oneCell'=true:=by
 intro y hy;obtain⟨v,_,hv⟩:=List.mem_flatMap.1 hy;simp[Ky]at hv;rcases hv with rfl|rfl|rfl|rfl<;>rfl
section
variable {P:Program}
theorem Nz(w:World)(base:Nat)(t ty e:TypeId)(i:TypeInfo)(z:Value)(size bytes:Nat)(ht:P.underlying t=some (.slice e))(hi:P.info? e=some i)(hz:i.zero=some z)
  (hsize:i.size=size) (hby:i.bytes=bytes) (hzs:z.cells.size=size) (hsz:0<size)
  (v:Value) (n:Nat) (xs:List Value) (hown:w.ownsRow base e size v n xs)
  (a:Addr) (m c:Nat) (news:List Value) (hl:news.length=m*size) (hnews:∀j u,news[j]?=some u->w.cell? (a.add j)=some u) (h1:∀u∈news,u.oneCell'=true)
  (hm:0<m) (h63:n+m<=maxLen) (hbytes:(n+m)*bytes<=140737488355328) (hbase:base<=w.heap.size):
  ∃v' w',(Builtin.append_ #[t,t] ty #[v,.slice (some a) m c]).run P w=.ok v' w'/\w'.ownsRow base e size v' (n+m) (xs++news)/\w.grownBy w' v.ownBlock /\
   (v'.ownBlock=v.ownBlock\/∃k,v'.ownBlock=some k/\w.heap.size<=k):=by
 obtain⟨v',w',hr,h2,h3,_⟩:=run_append_own (P:=P) w base t ty e i z size bytes ht hi hz hsize hby hzs hsz v n xs hown a m c news hl hnews h1 h63 hbytes hbase;refine⟨v',w',hr,h2,h3,?_⟩;subst hsize;subst hby;have h63':n+m<=9223372036854775807:=by simp only[maxLen]at h63;omega
 rcases hown.2 with⟨rfl,rfl⟩|⟨g,cap,cur,rfl,hbg,hg,hnc,hcm,hcs,htake⟩
 ·have hq:=run_append_nil (P:=P) w t ty e i z ht hi hz a m c news hl hnews hm aI (by have hb:=hbytes;simp only[ao]at hb;omega);exact lx
 by_cases hroom:n+m<=cap
 ·have hfit:n*i.size+news.length<=cur.size:=by rw[hl,hcs,<-Nat.add_mul];exact Nat.mul_le_mul_right _ hroom
  have hq:=run_append_room (P:=P) w t ty e i ht hi g n cap cur hg a m c news hl hnews h1 hroom hfit;rw[hq]at hr;injection hr with e1 _;subst e1;exact .inl rfl
 have holds:∀j u,xs[j]?=some u->w.cell? ((⟨g,0,none⟩:Addr).add j)=some u:=hown.cells (g:=g) rfl;have hq:=run_append_grow (P:=P) w t ty e i z ht hi hz ⟨g,0,none⟩ n cap xs hown.1 holds a m c news hl hnews aI aI (growslice_fits aI hbytes);exact lx
theorem Em(w:World){ops:Array Oper}{rest:List Oper}{o:Oper}{a:Act}{Q:Exit->Act->World->Prop}(hgd:o.guard=none)(s x:Operand)(t:TypeId)
  (ho:o.op=.call {callee:=.builtin .append,args:=#[s,x],argTypes:=#[t,t]})
  (base:Nat) (e:TypeId) (z:Value) (bytes:Nat) (ht:P.underlying t=some (.slice e)) (hinfo:(P.info? e).map (fun i=>(i.zero,i.size,i.bytes))=some (some z,1,bytes))
  (hzs:z.cells.size=1) (W:World) (u:Value) (hw:w=W.alloc (.cells #[u] e)) (hu:u.oneCell'=true) (v:Value) (n:Nat) (xs:List Value) (hs:a.eval s=v) (hx:a.eval x=.slice (W,0) 1 1)
  (hown:W.ownsRow base e 1 v n xs)
  (h63:n+1<=maxLen) (hbytes:(n+1)*bytes<=140737488355328) (hbase:base<=W.heap.size)
  (h:∀v' w',w'.ownsRow base e 1 v' (n+1) (xs++[u])->W.grownBy w' v.ownBlock->(v'.ownBlock=v.ownBlock\/∃k,v'.ownBlock=some k/\W.heap.size<=k)->wpList P ops Q rest (a.put o.dst v') w'):wpList P ops Q (o::rest) a w:=by
 subst hw;obtain⟨i0,hi,hz0,hz1,hz2⟩:=info_parts hinfo
 obtain⟨v',w',hrun,r1,r2,r3⟩:=Nz (P:=P) (W.alloc (.cells #[u] e)) base t o.type e i0 z 1 bytes ht hi hz0 hz1 hz2 hzs aL v n xs (hown.alloc _) ⟨W.heap.size,0,none⟩ 1 1 [u] rfl (by
  intro j y hj;match j,hj with
  |0,hj=>simp at hj;subst hj;simp[Addr.add,World.cell?_alloc_new]) (by intro y hy;simp at hy;subst hy;exact hu) aL h63 hbytes aO
 refine wpList_plain hgd fun K' hK'=>?_;unfold Oper.wp;simp[execOp,ho,resolve,invoke,builtin,hs,hx,hrun,Result.andThen];refine hK' _ _ (h v' w' r1 ?_ ?_)
 ·exact jW
 rcases r3 with r3|⟨k,r3,r4⟩
 ·exact .inl r3
 exact .inr ⟨k,r3,by simp at r4;omega⟩
end
end
section
variable {P:Program}
theorem Fr(W:World){o:Oper}{a:Act}{K:Act->World->Prop}{Q:Exit->Act->World->Prop}(s x:Operand)(t:TypeId)
  (ho:o.op=.call {callee:=.builtin .append,args:=#[s,x],argTypes:=#[t,t]})
  (base:Nat) (e:TypeId) (z:Value) (k bytes:Nat) (ht:P.underlying t=some (.slice e)) (hinfo:(P.info? e).map (fun i=>(i.zero,i.size,i.bytes))=some (some z,k,bytes))
  (hzs:z.cells.size=k) (hk:0<k) (us:List Value) (hul:us.length=k) (hu:∀u∈us,u.oneCell'=true) (v:Value) (n:Nat) (xs:List Value) (hs:a.eval s=v) (hx:a.eval x=.slice (W,0) 1 1)
  (hown:W.ownsRow base e k v n xs) (h63:n+1<=maxLen) (hbytes:(n+1)*bytes<=140737488355328) (hbase:base<=W.heap.size)
  (h:∀v' w',w'.ownsRow base e k v' (n+1) (xs++us)->W.grownBy w' v.ownBlock->(v'.ownBlock=v.ownBlock\/∃k,v'.ownBlock=some k/\W.heap.size<=k)->K (a.put o.dst v') w'):Oper.wp P o a (W.alloc (.cells us.toArray e)) K Q:=by
 obtain⟨i0,hi,hz0,hz1,hz2⟩:=info_parts hinfo
 obtain⟨v',w',hrun,r1,r2,r3⟩:=Nz (P:=P) (W.alloc (.cells us.toArray e)) base t o.type e i0 z k bytes ht hi hz0 hz1 hz2 hzs hk v n xs (hown.alloc _) ⟨W.heap.size,0,none⟩ 1 1 us aI (by
  intro j y hj;have e1:(⟨W.heap.size,0,none⟩:Addr).add j=⟨W.heap.size,j,none⟩:=bI;rw[e1,World.cell?_alloc_new];simpa using hj) hu aL h63 hbytes aO
 unfold Oper.wp;simp[execOp,ho,resolve,invoke,builtin,hs,hx,hrun,Result.andThen];refine h v' w' r1 ?_ ?_
 ·exact jW
 rcases r3 with r3|⟨k,r3,r4⟩
 ·exact .inl r3
 exact .inr ⟨k,r3,by simp at r4;omega⟩
theorem Pl(W:World){ops:Array Oper}{rest:List Oper}{o:Oper}{a:Act}{Q:Exit->Act->World->Prop}(hgd:o.guard=none)(s x:Operand)(t:TypeId)
  (ho:o.op=.call {callee:=.builtin .append,args:=#[s,x],argTypes:=#[t,t]})
  (base:Nat) (e:TypeId) (z:Value) (k bytes:Nat) (ht:P.underlying t=some (.slice e)) (hinfo:(P.info? e).map (fun i=>(i.zero,i.size,i.bytes))=some (some z,k,bytes))
  (hzs:z.cells.size=k) (hk:0<k) (us:List Value) (hul:us.length=k) (hu:∀u∈us,u.oneCell'=true) (v:Value) (n:Nat) (xs:List Value) (hs:a.eval s=v) (hx:a.eval x=.slice (W,0) 1 1)
  (hown:W.ownsRow base e k v n xs) (h63:n+1<=maxLen) (hbytes:(n+1)*bytes<=140737488355328) (hbase:base<=W.heap.size)
  (h:∀v' w',w'.ownsRow base e k v' (n+1) (xs++us)->W.grownBy w' v.ownBlock->(v'.ownBlock=v.ownBlock\/∃k,v'.ownBlock=some k/\W.heap.size<=k)->wpList P ops Q rest (a.put o.dst v') w'):wpList P ops Q (o::rest) a (W.alloc (.cells us.toArray e)):=
 wpList_plain hgd fun K' hK'=>Fr W s x t ho base e z k bytes ht hinfo hzs hk us hul hu v n xs hs hx hown h63 hbytes hbase fun v' w' h1 h2 h3=>hK' _ _ (h v' w' h1 h2 h3)
end
section
open Go.Maps (Keyed)
def Qk(v:Value):Option (DataW Value × List MemPlace):=some (.held v,[])
def Dq(P:Program)(k:TypeId)(z:Value)(w:World)(b n:Nat)(F:Lit->Value):Prop:=
 ∃D:DataW Value,w.ownsMap P k Qk b n D/\Go.Maps.IsMap D/\∀l,WideAt.IsKeyLit l->D.atKey l (.held z)=.held (F l)
section
variable {P:Program} {k:TypeId} {z:Value} {w w':World} {b n:Nat} {F:Lit->Value}
theorem Dq.made(w:World)(P:Program)(k:TypeId)(z:Value):Dq P k z (w.alloc (.map #[] 0)) w 0 (fun _=>z):=
 ⟨.map [],World.ownsMap_made w P k Qk,Go.Maps.isMap_empty,fun l _=>rfl⟩
theorem Dq.lt(h:Dq P k z w b n F):b<w.heap.size:=by
 obtain⟨D,h1,_⟩:=h;exact h1.lt
theorem Dq.kept{row:Option Nat}(h:Dq P k z w b n F)(hg:w.grownBy w' row)(hne:some b≠row):Dq P k z w' b n F:=by
 obtain⟨D,h1,h2⟩:=h;exact⟨D,h1.kept hg hne,h2⟩
theorem Dq.below(h:Dq P k z w b n F)(hb:Below w w w'):Dq P k z w' b n F:=
 h.kept (row:=none) ⟨hb.os,hb.tape,hb.output,hb.size,fun k hk _=>hb.block k hk⟩ aN
theorem Dq.belowAt{B:Nat}(h:Dq P k z w b n F)(hlt:b<B)(hb:Below B w w'):Dq P k z w' b n F:=by
 obtain⟨D,⟨es,clock,h1,h2,h3,h4⟩,h5⟩:=h;exact⟨D,⟨es,clock,(hb.block b hlt).trans h1,h2,h3,h4⟩,h5⟩
theorem Dq.alloc(h:Dq P k z w b n F)(o:Obj):Dq P k z (w.alloc o) b n F:=h.below ((Am _ _).alloc (Ao _) o)
theorem Dq.drew(h:Dq P k z w b n F):Dq P k z w.drew b n F:=h
theorem Dq.mono(h:Dq P k z w b n F){n':Nat}(hn:n<=n'):Dq P k z w b n' F:=by
 obtain⟨D,h1,h2⟩:=h;exact⟨D,h1.mono hn,h2⟩
theorem Dq.of_eq{G:Lit->Value}(h:Dq P k z w b n F)(e:∀l,WideAt.IsKeyLit l->F l=G l):Dq P k z w b n G:=by
 obtain⟨D,h1,h2,h3⟩:=h;exact⟨D,h1,h2,fun l hl=>by rw[h3 l hl,e l hl]⟩
theorem Dq.lookup{t e:TypeId}(h:Dq P k z w b n F)(K:Keyed P k)(ht:P.underlying t=some (.map k e))(hz:(zeroValue e).run P w=.ok z w){key:Value}{kl:Lit}(hkey:keyOf P k key=some kl):
  (Instr.lookup t (.map (some b)) key false).run P w=.ok (F kl) w:=by
 obtain⟨D,h1,h2,h3⟩:=h;obtain⟨v,ps,hrun,hv⟩:=h1.lookup K ht hz (show Qk z=some (.held z,[])from rfl) hkey;rw[h3 kl (K.key hkey)]at hv;simp only[Qk,ak,aF,DataW.held.injEq]at hv;rw[hrun,hv.1]
theorem Dq.store{t e:TypeId}(h:Dq P k z w b n F)(K:Keyed P k)(ht:P.underlying t=some (.map k e))(hn:n<maxLen){key:Value}(val:Value){kl:Lit}(hkey:keyOf P k key=some kl):
  ∃w',(Instr.mapUpdate t (.map (some b)) key val).run P w=.ok () w'/\Dq P k z w' b (n+1) (fun l=>if l.sameKey kl=true then val else F l)/\w.grownBy w' (some b):=by
 obtain⟨D,h1,h2,h3⟩:=h;obtain⟨w',hrun,r1,r2⟩:=h1.update K ht hn hkey (show Qk val=some (.held val,[])from rfl);refine⟨w',hrun,⟨_,r1,h2.put _ _,fun l hl=>?_⟩,r2⟩;by_cases e:l=kl
 ·subst e;rw[Go.Maps.atKey_put_same h2 hl];simp[WideAt.sameKey_self hl]
 rw[Go.Maps.atKey_put_other e,h3 l hl];simp[show l.sameKey kl=false from Go.Maps.sameKey_ne e]
end
end
end Go.Proofs.YtpjijpcemejlnaaGreatDoor
namespace Go.Proofs
open Go.Shelf
def Tryz.lays160_ren:Go.Shelf.Ren:=⟨fun|160=>173|232=>198|231=>167|227=>168|234=>199|233=>169|236=>200|235=>170|228=>195|271=>215|151=>197|197=>196|120=>223|152=>214|260=>213|137=>221|119=>222|224=>208|225=>207|217=>206|266=>217|n=>n,fun|9=>9|4=>4|3=>3|5=>5|117=>216|116=>215|0=>0|124=>219|21=>21|105=>238|46=>195|119=>255|139=>258|138=>257|n=>n,fun|3=>1|4=>2|n=>n⟩
theorem Tryz.lays160:Go.Proofs.Lays.n160 Tryz.prog Tryz.lays160_ren:={
 mixed:=by kernel_rfl
 f119:=Tryz.func222.trans (congrArg some (by kernel_rfl))
 f120:=Tryz.func223.trans (congrArg some (by kernel_rfl))
 f137:=Tryz.func221.trans (congrArg some (by kernel_rfl))
 f151:=Tryz.func197.trans (congrArg some (by kernel_rfl))
 f152:=Tryz.func214.trans (congrArg some (by kernel_rfl))
 f160:=Tryz.func173.trans (congrArg some (by kernel_rfl))
 f197:=Tryz.func196.trans (congrArg some (by kernel_rfl))
 f217:=Tryz.func206.trans (congrArg some (by kernel_rfl))
 f224:=Tryz.func208.trans (congrArg some (by kernel_rfl))
 f225:=Tryz.func207.trans (congrArg some (by kernel_rfl))
 f227:=Tryz.func168.trans (congrArg some (by kernel_rfl))
 f228:=Tryz.func195.trans (congrArg some (by kernel_rfl))
 f231:=Tryz.func167.trans (congrArg some (by kernel_rfl))
 f232:=Tryz.func198.trans (congrArg some (by kernel_rfl))
 f233:=Tryz.func169.trans (congrArg some (by kernel_rfl))
 f234:=Tryz.func199.trans (congrArg some (by kernel_rfl))
 f235:=Tryz.func170.trans (congrArg some (by kernel_rfl))
 f236:=Tryz.func200.trans (congrArg some (by kernel_rfl))
 f260:=Tryz.func213.trans (congrArg some (by kernel_rfl))
 f266:=Tryz.func217.trans (congrArg some (by kernel_rfl))
 f271:=Tryz.func215.trans (congrArg some (by kernel_rfl))
 t0:=Tryz.underlying0
 a0:=Tryz.isAgg0
 z0:=Tryz.sizeOf0
 v0:=Tryz.zeroValue0
 t3:=Tryz.underlying3
 a3:=Tryz.isAgg3
 z3:=Tryz.sizeOf3
 v3:=Tryz.zeroValue3
 t4:=Tryz.underlying4
 a4:=Tryz.isAgg4
 z4:=Tryz.sizeOf4
 v4:=Tryz.zeroValue4
 t5:=Tryz.underlying5
 a5:=Tryz.isAgg5
 z5:=Tryz.sizeOf5
 v5:=Tryz.zeroValue5
 t9:=Tryz.underlying9
 a9:=Tryz.isAgg9
 z9:=Tryz.sizeOf9
 v9:=Tryz.zeroValue9
 t21:=Tryz.underlying21
 a21:=Tryz.isAgg21
 z21:=Tryz.sizeOf21
 v21:=Tryz.zeroValue21
 t46:=Tryz.underlying195
 a46:=Tryz.isAgg195
 z46:=Tryz.sizeOf195
 v46:=Tryz.zeroValue195
 t105:=Tryz.underlying238
 a105:=Tryz.isAgg238
 z105:=Tryz.sizeOf238
 v105:=Tryz.zeroValue238
 t116:=Tryz.underlying215
 a116:=Tryz.isAgg215
 z116:=Tryz.sizeOf215
 t117:=Tryz.underlying216
 a117:=Tryz.isAgg216
 z117:=Tryz.sizeOf216
 v117:=Tryz.zeroValue216
 t119:=Tryz.underlying255
 a119:=Tryz.isAgg255
 z119:=Tryz.sizeOf255
 t124:=Tryz.underlying219
 a124:=Tryz.isAgg219
 z124:=Tryz.sizeOf219
 v124:=Tryz.zeroValue219
 t138:=Tryz.underlying257
 a138:=Tryz.isAgg257
 z138:=Tryz.sizeOf257
 v138:=Tryz.zeroValue257
 t139:=Tryz.underlying258
 a139:=Tryz.isAgg258
 z139:=Tryz.sizeOf258
 v139:=Tryz.zeroValue258
 g3:=by kernel_rfl
 g4:=by kernel_rfl}
def Tryz.lays161_ren:Go.Shelf.Ren:=⟨fun|161=>137|231=>167|227=>168|233=>169|235=>170|228=>195|197=>196|151=>197|260=>213|152=>214|137=>221|119=>222|224=>208|225=>207|217=>206|266=>217|n=>n,fun|9=>9|4=>4|3=>3|5=>5|117=>216|116=>215|0=>0|124=>219|105=>238|21=>21|119=>255|46=>195|139=>258|138=>257|n=>n,fun|3=>1|4=>2|n=>n⟩
theorem Tryz.lays161:Go.Proofs.Lays.n161 Tryz.prog Tryz.lays161_ren:={
 mixed:=by kernel_rfl
 f119:=Tryz.func222.trans (congrArg some (by kernel_rfl))
 f137:=Tryz.func221.trans (congrArg some (by kernel_rfl))
 f151:=Tryz.func197.trans (congrArg some (by kernel_rfl))
 f152:=Tryz.func214.trans (congrArg some (by kernel_rfl))
 f161:=Tryz.func137.trans (congrArg some (by kernel_rfl))
 f197:=Tryz.func196.trans (congrArg some (by kernel_rfl))
 f217:=Tryz.func206.trans (congrArg some (by kernel_rfl))
 f224:=Tryz.func208.trans (congrArg some (by kernel_rfl))
 f225:=Tryz.func207.trans (congrArg some (by kernel_rfl))
 f227:=Tryz.func168.trans (congrArg some (by kernel_rfl))
 f228:=Tryz.func195.trans (congrArg some (by kernel_rfl))
 f231:=Tryz.func167.trans (congrArg some (by kernel_rfl))
 f233:=Tryz.func169.trans (congrArg some (by kernel_rfl))
 f235:=Tryz.func170.trans (congrArg some (by kernel_rfl))
 f260:=Tryz.func213.trans (congrArg some (by kernel_rfl))
 f266:=Tryz.func217.trans (congrArg some (by kernel_rfl))
 t0:=Tryz.underlying0
 a0:=Tryz.isAgg0
 z0:=Tryz.sizeOf0
 v0:=Tryz.zeroValue0
 t3:=Tryz.underlying3
 a3:=Tryz.isAgg3
 z3:=Tryz.sizeOf3
 v3:=Tryz.zeroValue3
 t4:=Tryz.underlying4
 a4:=Tryz.isAgg4
 z4:=Tryz.sizeOf4
 v4:=Tryz.zeroValue4
 t5:=Tryz.underlying5
 a5:=Tryz.isAgg5
 z5:=Tryz.sizeOf5
 v5:=Tryz.zeroValue5
 t9:=Tryz.underlying9
 a9:=Tryz.isAgg9
 z9:=Tryz.sizeOf9
 v9:=Tryz.zeroValue9
 t21:=Tryz.underlying21
 a21:=Tryz.isAgg21
 z21:=Tryz.sizeOf21
 v21:=Tryz.zeroValue21
 t46:=Tryz.underlying195
 a46:=Tryz.isAgg195
 z46:=Tryz.sizeOf195
 v46:=Tryz.zeroValue195
 t105:=Tryz.underlying238
 a105:=Tryz.isAgg238
 z105:=Tryz.sizeOf238
 v105:=Tryz.zeroValue238
 t116:=Tryz.underlying215
 a116:=Tryz.isAgg215
 z116:=Tryz.sizeOf215
 t117:=Tryz.underlying216
 a117:=Tryz.isAgg216
 z117:=Tryz.sizeOf216
 v117:=Tryz.zeroValue216
 t119:=Tryz.underlying255
 a119:=Tryz.isAgg255
 z119:=Tryz.sizeOf255
 t124:=Tryz.underlying219
 a124:=Tryz.isAgg219
 z124:=Tryz.sizeOf219
 v124:=Tryz.zeroValue219
 t138:=Tryz.underlying257
 a138:=Tryz.isAgg257
 z138:=Tryz.sizeOf257
 v138:=Tryz.zeroValue257
 t139:=Tryz.underlying258
 a139:=Tryz.isAgg258
 z139:=Tryz.sizeOf258
 v139:=Tryz.zeroValue258
 g3:=by kernel_rfl
 g4:=by kernel_rfl}
def Tryz.lays99_ren:Go.Shelf.Ren:=⟨fun|99=>138|206=>171|n=>n,fun|9=>9|4=>4|3=>3|n=>n,fun|n=>n⟩
theorem Tryz.lays99:Go.Proofs.Lays.n99 Tryz.prog Tryz.lays99_ren:={
 mixed:=by kernel_rfl
 f99:=Tryz.func138.trans (congrArg some (by kernel_rfl))
 f206:=Tryz.func171.trans (congrArg some (by kernel_rfl))
 t3:=Tryz.underlying3
 a3:=Tryz.isAgg3
 z3:=Tryz.sizeOf3
 v3:=Tryz.zeroValue3
 t4:=Tryz.underlying4
 a4:=Tryz.isAgg4
 z4:=Tryz.sizeOf4
 v4:=Tryz.zeroValue4
 t9:=Tryz.underlying9
 a9:=Tryz.isAgg9
 z9:=Tryz.sizeOf9
 v9:=Tryz.zeroValue9}
def Tryz.lays100_ren:Go.Shelf.Ren:=⟨fun|100=>139|207=>172|n=>n,fun|9=>9|4=>4|3=>3|n=>n,fun|n=>n⟩
theorem Tryz.lays100:Go.Proofs.Lays.n100 Tryz.prog Tryz.lays100_ren:={
 mixed:=by kernel_rfl
 f100:=Tryz.func139.trans (congrArg some (by kernel_rfl))
 f207:=Tryz.func172.trans (congrArg some (by kernel_rfl))
 t3:=Tryz.underlying3
 a3:=Tryz.isAgg3
 z3:=Tryz.sizeOf3
 v3:=Tryz.zeroValue3
 t4:=Tryz.underlying4
 a4:=Tryz.isAgg4
 z4:=Tryz.sizeOf4
 v4:=Tryz.zeroValue4
 t9:=Tryz.underlying9
 a9:=Tryz.isAgg9
 z9:=Tryz.sizeOf9
 v9:=Tryz.zeroValue9}
def Tryz.lays143_ren:Go.Shelf.Ren:=⟨fun|143=>192|219=>191|217=>206|225=>207|224=>208|267=>209|266=>217|314=>218|n=>n,fun|9=>9|3=>3|4=>4|5=>5|46=>195|146=>253|51=>231|n=>n,fun|1=>0|n=>n⟩
theorem Tryz.lays143:Go.Proofs.Lays.n143 Tryz.prog Tryz.lays143_ren:={
 mixed:=by kernel_rfl
 f143:=Tryz.func192.trans (congrArg some (by kernel_rfl))
 f217:=Tryz.func206.trans (congrArg some (by kernel_rfl))
 f219:=Tryz.func191.trans (congrArg some (by kernel_rfl))
 f224:=Tryz.func208.trans (congrArg some (by kernel_rfl))
 f225:=Tryz.func207.trans (congrArg some (by kernel_rfl))
 f266:=Tryz.func217.trans (congrArg some (by kernel_rfl))
 f267:=Tryz.func209.trans (congrArg some (by kernel_rfl))
 f314:=Tryz.func218.trans (congrArg some (by kernel_rfl))
 t3:=Tryz.underlying3
 a3:=Tryz.isAgg3
 z3:=Tryz.sizeOf3
 v3:=Tryz.zeroValue3
 t4:=Tryz.underlying4
 a4:=Tryz.isAgg4
 z4:=Tryz.sizeOf4
 v4:=Tryz.zeroValue4
 t5:=Tryz.underlying5
 a5:=Tryz.isAgg5
 z5:=Tryz.sizeOf5
 v5:=Tryz.zeroValue5
 t9:=Tryz.underlying9
 a9:=Tryz.isAgg9
 z9:=Tryz.sizeOf9
 v9:=Tryz.zeroValue9
 t46:=Tryz.underlying195
 a46:=Tryz.isAgg195
 z46:=Tryz.sizeOf195
 v46:=Tryz.zeroValue195
 t51:=Tryz.underlying231
 a51:=Tryz.isAgg231
 z51:=Tryz.sizeOf231
 v51:=Tryz.zeroValue231
 t146:=Tryz.underlying253
 a146:=Tryz.isAgg253
 z146:=Tryz.sizeOf253
 v146:=Tryz.zeroValue253
 g1:=by kernel_rfl}
def Tryz.lays144_ren:Go.Shelf.Ren:=⟨fun|144=>164|143=>192|219=>191|217=>206|225=>207|224=>208|267=>209|266=>217|314=>218|n=>n,fun|9=>9|4=>4|3=>3|5=>5|46=>195|146=>253|51=>231|n=>n,fun|1=>0|n=>n⟩
theorem Tryz.lays144:Go.Proofs.Lays.n144 Tryz.prog Tryz.lays144_ren:={
 mixed:=by kernel_rfl
 f143:=Tryz.func192.trans (congrArg some (by kernel_rfl))
 f144:=Tryz.func164.trans (congrArg some (by kernel_rfl))
 f217:=Tryz.func206.trans (congrArg some (by kernel_rfl))
 f219:=Tryz.func191.trans (congrArg some (by kernel_rfl))
 f224:=Tryz.func208.trans (congrArg some (by kernel_rfl))
 f225:=Tryz.func207.trans (congrArg some (by kernel_rfl))
 f266:=Tryz.func217.trans (congrArg some (by kernel_rfl))
 f267:=Tryz.func209.trans (congrArg some (by kernel_rfl))
 f314:=Tryz.func218.trans (congrArg some (by kernel_rfl))
 t3:=Tryz.underlying3
 a3:=Tryz.isAgg3
 z3:=Tryz.sizeOf3
 v3:=Tryz.zeroValue3
 t4:=Tryz.underlying4
 a4:=Tryz.isAgg4
 z4:=Tryz.sizeOf4
 v4:=Tryz.zeroValue4
 t5:=Tryz.underlying5
 a5:=Tryz.isAgg5
 z5:=Tryz.sizeOf5
 v5:=Tryz.zeroValue5
 t9:=Tryz.underlying9
 a9:=Tryz.isAgg9
 z9:=Tryz.sizeOf9
 v9:=Tryz.zeroValue9
 t46:=Tryz.underlying195
 a46:=Tryz.isAgg195
 z46:=Tryz.sizeOf195
 v46:=Tryz.zeroValue195
 t51:=Tryz.underlying231
 a51:=Tryz.isAgg231
 z51:=Tryz.sizeOf231
 v51:=Tryz.zeroValue231
 t146:=Tryz.underlying253
 a146:=Tryz.isAgg253
 z146:=Tryz.sizeOf253
 v146:=Tryz.zeroValue253
 g1:=by kernel_rfl}
def Tryz.lays138_ren:Go.Shelf.Ren:=⟨fun|138=>211|195=>219|218=>220|143=>192|219=>191|217=>206|225=>207|224=>208|267=>209|266=>217|314=>218|n=>n,fun|9=>9|3=>3|4=>4|5=>5|0=>0|46=>195|146=>253|51=>231|n=>n,fun|1=>0|n=>n⟩
theorem Tryz.lays138:Go.Proofs.Lays.n138 Tryz.prog Tryz.lays138_ren:={
 mixed:=by kernel_rfl
 f138:=Tryz.func211.trans (congrArg some (by kernel_rfl))
 f143:=Tryz.func192.trans (congrArg some (by kernel_rfl))
 f195:=Tryz.func219.trans (congrArg some (by kernel_rfl))
 f217:=Tryz.func206.trans (congrArg some (by kernel_rfl))
 f218:=Tryz.func220.trans (congrArg some (by kernel_rfl))
 f219:=Tryz.func191.trans (congrArg some (by kernel_rfl))
 f224:=Tryz.func208.trans (congrArg some (by kernel_rfl))
 f225:=Tryz.func207.trans (congrArg some (by kernel_rfl))
 f266:=Tryz.func217.trans (congrArg some (by kernel_rfl))
 f267:=Tryz.func209.trans (congrArg some (by kernel_rfl))
 f314:=Tryz.func218.trans (congrArg some (by kernel_rfl))
 t0:=Tryz.underlying0
 a0:=Tryz.isAgg0
 z0:=Tryz.sizeOf0
 v0:=Tryz.zeroValue0
 t3:=Tryz.underlying3
 a3:=Tryz.isAgg3
 z3:=Tryz.sizeOf3
 v3:=Tryz.zeroValue3
 t4:=Tryz.underlying4
 a4:=Tryz.isAgg4
 z4:=Tryz.sizeOf4
 v4:=Tryz.zeroValue4
 t5:=Tryz.underlying5
 a5:=Tryz.isAgg5
 z5:=Tryz.sizeOf5
 v5:=Tryz.zeroValue5
 t9:=Tryz.underlying9
 a9:=Tryz.isAgg9
 z9:=Tryz.sizeOf9
 v9:=Tryz.zeroValue9
 t46:=Tryz.underlying195
 a46:=Tryz.isAgg195
 z46:=Tryz.sizeOf195
 v46:=Tryz.zeroValue195
 t51:=Tryz.underlying231
 a51:=Tryz.isAgg231
 z51:=Tryz.sizeOf231
 v51:=Tryz.zeroValue231
 t146:=Tryz.underlying253
 a146:=Tryz.isAgg253
 z146:=Tryz.sizeOf253
 v146:=Tryz.zeroValue253
 g1:=by kernel_rfl}
def Tryz.lays219_ren:Go.Shelf.Ren:=⟨fun|219=>191|217=>206|225=>207|224=>208|267=>209|266=>217|314=>218|n=>n,fun|9=>9|3=>3|4=>4|5=>5|46=>195|146=>253|51=>231|n=>n,fun|1=>0|n=>n⟩
theorem Tryz.lays219:Go.Proofs.Lays.n219 Tryz.prog Tryz.lays219_ren:={
 mixed:=by kernel_rfl
 f217:=Tryz.func206.trans (congrArg some (by kernel_rfl))
 f219:=Tryz.func191.trans (congrArg some (by kernel_rfl))
 f224:=Tryz.func208.trans (congrArg some (by kernel_rfl))
 f225:=Tryz.func207.trans (congrArg some (by kernel_rfl))
 f266:=Tryz.func217.trans (congrArg some (by kernel_rfl))
 f267:=Tryz.func209.trans (congrArg some (by kernel_rfl))
 f314:=Tryz.func218.trans (congrArg some (by kernel_rfl))
 t3:=Tryz.underlying3
 a3:=Tryz.isAgg3
 z3:=Tryz.sizeOf3
 v3:=Tryz.zeroValue3
 t4:=Tryz.underlying4
 a4:=Tryz.isAgg4
 z4:=Tryz.sizeOf4
 v4:=Tryz.zeroValue4
 t5:=Tryz.underlying5
 a5:=Tryz.isAgg5
 z5:=Tryz.sizeOf5
 v5:=Tryz.zeroValue5
 t9:=Tryz.underlying9
 a9:=Tryz.isAgg9
 z9:=Tryz.sizeOf9
 v9:=Tryz.zeroValue9
 t46:=Tryz.underlying195
 a46:=Tryz.isAgg195
 z46:=Tryz.sizeOf195
 v46:=Tryz.zeroValue195
 t51:=Tryz.underlying231
 a51:=Tryz.isAgg231
 z51:=Tryz.sizeOf231
 v51:=Tryz.zeroValue231
 t146:=Tryz.underlying253
 a146:=Tryz.isAgg253
 z146:=Tryz.sizeOf253
 v146:=Tryz.zeroValue253
 g1:=by kernel_rfl}
def Tryz.lays156_ren:Go.Shelf.Ren:=⟨fun|156=>45|165=>82|166=>83|169=>84|240=>126|241=>127|276=>160|277=>161|n=>n,fun|31=>31|9=>9|3=>3|4=>4|0=>0|20=>20|72=>134|76=>138|70=>132|37=>22|75=>137|127=>180|164=>206|5=>5|80=>50|n=>n,fun|n=>n⟩
theorem Tryz.lays156:Go.Proofs.Lays.n156 Tryz.prog Tryz.lays156_ren:={
 mixed:=by kernel_rfl
 f156:=Tryz.func45.trans (congrArg some (by kernel_rfl))
 f165:=Tryz.func82.trans (congrArg some (by kernel_rfl))
 f166:=Tryz.func83.trans (congrArg some (by kernel_rfl))
 f169:=Tryz.func84.trans (congrArg some (by kernel_rfl))
 f240:=Tryz.func126.trans (congrArg some (by kernel_rfl))
 f241:=Tryz.func127.trans (congrArg some (by kernel_rfl))
 f276:=Tryz.func160.trans (congrArg some (by kernel_rfl))
 f277:=Tryz.func161.trans (congrArg some (by kernel_rfl))
 t0:=Tryz.underlying0
 a0:=Tryz.isAgg0
 z0:=Tryz.sizeOf0
 v0:=Tryz.zeroValue0
 t3:=Tryz.underlying3
 a3:=Tryz.isAgg3
 z3:=Tryz.sizeOf3
 v3:=Tryz.zeroValue3
 t4:=Tryz.underlying4
 a4:=Tryz.isAgg4
 z4:=Tryz.sizeOf4
 v4:=Tryz.zeroValue4
 t9:=Tryz.underlying9
 a9:=Tryz.isAgg9
 z9:=Tryz.sizeOf9
 v9:=Tryz.zeroValue9
 t20:=Tryz.underlying20
 a20:=Tryz.isAgg20
 z20:=Tryz.sizeOf20
 v20:=Tryz.zeroValue20
 t31:=Tryz.underlying31
 a31:=Tryz.isAgg31
 z31:=Tryz.sizeOf31
 v31:=Tryz.zeroValue31
 t37:=Tryz.underlying22
 a37:=Tryz.isAgg22
 z37:=Tryz.sizeOf22
 v37:=Tryz.zeroValue22
 t70:=Tryz.underlying132
 a70:=Tryz.isAgg132
 z70:=Tryz.sizeOf132
 v70:=Tryz.zeroValue132
 t72:=Tryz.underlying134
 a72:=Tryz.isAgg134
 z72:=Tryz.sizeOf134
 v72:=Tryz.zeroValue134
 t75:=Tryz.underlying137
 a75:=Tryz.isAgg137
 z75:=Tryz.sizeOf137
 v75:=Tryz.zeroValue137
 t76:=Tryz.underlying138
 a76:=Tryz.isAgg138
 z76:=Tryz.sizeOf138
 v76:=Tryz.zeroValue138
 t127:=Tryz.underlying180
 a127:=Tryz.isAgg180
 z127:=Tryz.sizeOf180
 v127:=Tryz.zeroValue180
 t164:=Tryz.underlying206
 a164:=Tryz.isAgg206
 z164:=Tryz.sizeOf206
 v164:=Tryz.zeroValue206}
end Go.Proofs
namespace Go.Proofs.YtpjijpcemejlnaaGreatDoor
open Go.RowKit Go.Proofs.Tryz
section
attribute [local go_sem] Qm0 Ql8 Qlz Qj6 ByteArray.mk_append_mk
theorem Pe(s cs:List UInt8)(w:World)(hcs:cs.length<4294967281)(ha:∀b∈cs,b.toNat<128):
  Calls prog 137 #[s,cs] w fun e w'=>e=.returned (.string ⟨(s.dropWhile (cs.contains ·)).toArray⟩)/\Below w w w':=
 Any.strings_TrimLeft_laid Tryz.lays161 aP ⟨s.toArray⟩ ⟨cs.toArray⟩ w hcs (fun j b h=>ha b (List.mem_of_getElem? h))
theorem Nh{p:UInt8->Bool}:∀{l:List UInt8},l.dropWhile p=[]↔l.all p=true
 |[]=>aN
 |x::l=>by
  have ih:=Nh (p:=p) (l:=l);by_cases h:p x=true
  ·simp only[List.dropWhile_cons,h,if_true,List.all_cons,Bool.true_and];exact ih
  simp[h]
theorem Qhf{l cs:List UInt8}:Lib.trimS l cs=[]↔l.all (cs.contains ·)=true:=by
 unfold Lib.trimS Lib.trimLeftS Lib.trimRightS;rw[Nh];have hsp:l.reverse.takeWhile (cs.contains ·)++l.reverse.dropWhile (cs.contains ·)=l.reverse:=List.takeWhile_append_dropWhile;have htk:=Kj (p:=fun x=>cs.contains x) l.reverse;constructor
 ·intro h;rw[List.all_eq_true]at h htk ⊢;intro x hx;have hx':x∈l.reverse:=List.mem_reverse.2 hx;rw[<-hsp]at hx';rcases ag.1 hx' with hx'|hx'
  ·exact htk x hx'
  exact h x (List.mem_reverse.2 hx')
 intro h;rw[List.all_eq_true]at h ⊢;intro x hx;have hx':=List.mem_reverse.1 hx;exact h x (List.mem_reverse.1 (by rw[<-hsp];exact List.mem_append_right _ hx'))
theorem Qcl(s cs:List UInt8)(w:World)(hs:s.length<=9223372036854775807)(hcs:cs.length<4294967281)(ha:∀b∈cs,b.toNat<128):
  Calls prog 173 #[s,cs] w fun e w'=>(∃r:List UInt8,e=.returned r/\(r=[]↔s.all (cs.contains ·)=true))/\Below w w w':=
 (Any.strings_Trim_laid Tryz.lays160 aP ⟨s.toArray⟩ ⟨cs.toArray⟩ w hs hcs (fun j b h=>ha b (List.mem_of_getElem? h))).mono fun e w' ⟨h1,h2⟩=>⟨⟨_,h1,Qhf⟩,h2⟩
theorem Qbh(s p:List UInt8):Lib.hasPrefix s p=p.isPrefixOf s:=by
 unfold Lib.hasPrefix;first|rfl|simp
theorem Ro(s p:List UInt8)(w:World):
  Calls prog 138 #[s,p] w fun e w'=>e=.returned (.bool (p.isPrefixOf s))/\w=w':=
 (Any.strings_HasPrefix Tryz.lays99 ⟨s.toArray⟩ ⟨p.toArray⟩ w).mono fun e w' ⟨h1,h2⟩=>⟨by rw[h1,Qbh],h2.symm⟩
theorem Rt(s p:List UInt8)(w:World)(hs:s.length<=9223372036854775807):
  Calls prog 139 #[s,p] w fun e w'=>e=.returned (.bool (Lib.hasSuffix s p))/\w=w':=
 (Any.strings_HasSuffix Tryz.lays100 ⟨s.toArray⟩ ⟨p.toArray⟩ w hs).mono fun e w' ⟨h1,h2⟩=>⟨h1,h2.symm⟩
theorem Ku(s:List UInt8)(c:UInt8):(c∉s/\Lib.indexByte s c = -1)\/∃p t,s=p++c::t/\c∉p/\Lib.indexByte s c=(p.length:Int):=by
 induction s with
 |nil=>exact .inl ⟨by simp,rfl⟩
 |cons x s ih=>
  by_cases hx:x=c
  ·exact .inr ⟨[],s,by simp[hx],by simp,by simp[Lib.indexByte,hx]⟩
  have hb:(x == c)=false:=by simpa using hx
  rcases ih with⟨hn,e⟩|⟨p,t,es,hp,e⟩
  ·exact .inl ⟨by simp;exact⟨fun h=>hx h.symm,hn⟩,by simp[Lib.indexByte,hb,e]⟩
  refine .inr ⟨x::p,t,by simp[es],by simp;exact⟨fun h=>hx h.symm,hp⟩,?_⟩;have:¬(p.length:Int) = -1:=aI;simp[Lib.indexByte,hb,e,this]
theorem Qg9(s:List UInt8)(c:UInt8)(w:World):
  Calls prog 192 #[s,.string ⟨#[c]⟩] w fun e w'=>e=.returned (.int .i64 (Lib.indexByte s c))/\w=w':=
 (Any.strings_Index_one Tryz.lays143 ⟨s.toArray⟩ c w).mono fun e w' ⟨h1,h2⟩=>⟨h1,h2.symm⟩
theorem Yx(s:List UInt8)(c:UInt8)(w:World):
  Calls prog 191 #[s,.string ⟨#[c]⟩] w fun e w'=>e=.returned (.int .i64 (Lib.indexByte s c))/\w=w':=
 (Any.stringslite_Index_one Tryz.lays219 ⟨s.toArray⟩ c w).mono fun e w' ⟨h1,h2⟩=>⟨h1,h2.symm⟩
theorem Qgh(s:List UInt8)(c:UInt8)(w:World):
  Calls prog 211 #[s,.string ⟨#[c]⟩] w fun e w'=>e=.returned (.int .i64 ((s.count c:Nat):Int))/\w=w':=
 (Any.strings_Count_one Tryz.lays138 ⟨s.toArray⟩ c w).mono fun e w' ⟨h1,h2⟩=>⟨h1,h2.symm⟩
theorem Pp(s:List UInt8)(c:UInt8)(w:World):
  Calls prog 164 #[s,.string ⟨#[c]⟩] w fun e w'=>e=.returned (.bool (decide (c∈s)))/\w=w':=
 (Any.strings_Contains_one Tryz.lays144 ⟨s.toArray⟩ c w).mono fun e w' ⟨h1,h2⟩=>⟨by
  rw[h1];refine Ej (C0 ?_);show decide (0<=Lib.indexByte s c)=_;rw[decide_eq_decide];rcases Ku s c with⟨hn,e⟩|⟨p,t,es,hp,e⟩
  ·rw[e];exact⟨fun h=>by omega,fun h=>absurd h hn⟩
  rw[e];exact⟨fun _=>by rw[es];simp,fun _=>by omega⟩,h2.symm⟩
def Qcp(r:List UInt8 × List UInt8 × Bool):Value:=.tuple #[r.1,r.2.1,.bool r.2.2]
theorem Qig(s:List UInt8)(c:UInt8)(w:World)(hs:s.length<=4294967280):
  Calls prog 163 #[s,.string ⟨#[c]⟩] w fun e w'=>e=.returned (Qcp (Dg c s))/\∃k,w'=w.drewN k:=by
 rcases Ku s c with⟨hn,e⟩|⟨p,t,es,hp,e⟩
 ·have Hc:=Aa (Ri hn);have Hi:=Aa (fun W=>Yx s c W);rw[e]at Hi;clear hn e;go_enter func163,ntmps163;go_wp2_with fail;refine(Hi.o _).mono ?_;rintro e w' ⟨rfl,rfl⟩;go_wp2_with fail;go_ret3
  exact⟨by rw[Hc.o];rfl,0,rfl⟩
 have Hc:=Aa (show Dg c s=(p,t,true)by rw[es];exact Ez hp);have Hi:=Aa (fun W=>Yx s c W);rw[e]at Hi;have hl:s.length=p.length+1+t.length:=by rw[es];simp;omega
 have h1:s.take p.length=p:=by rw[es];simp
 have h2:s.drop (p.length+1)=t:=by
  rw[es,show p++c::t=(p++[c])++t by simp];exact List.drop_left' aN
 have k1:IntKind.i64.wrap ((p.length:Int)+1)=(p.length:Int)+1:=IntWalk.i64_in _ aI;have k2:((p.length:Int)+1).toNat=p.length+1:=aI;have k3:(0:Int)<=(p.length:Int)+1:=aI;have k4:(p.length:Int)+1<=(s.length:Int):=aI;have k5:(p.length:Int)<=(s.length:Int):=aI;have k6:(0:Int)<=(p.length:Int):=aI;have H1:=Aa h1;have H2:=Aa h2;clear e es hl h1 h2 hp;go_enter func163,ntmps163;go_wp2_with fail;refine(Hi.o _).mono ?_;rintro e w' ⟨rfl,rfl⟩;go_wp2_with fail;go_quiet (fail)
 go_wp2
 go_ret3
 exact⟨by rw[Hc.o];exact Qmx (Qjf H1.o) (Qjf H2.o) rfl,_,rfl⟩
theorem S5(s:List UInt8)(c:UInt8)(w:World)(hs:s.length<=4294967280):
  Calls prog 134 #[s,.string ⟨#[c]⟩] w fun e w'=>e=.returned (Qcp (Dg c s))/\∃k,w'=w.drewN k:=by
 go_enter func134,ntmps134;go_wp2_with fail;refine(Qig s c _ hs).mono ?_;rintro e w' ⟨rfl,k,rfl⟩;unfold Qcp;go_wp2_with fail;go_ret3
 exact⟨rfl,k,rfl⟩
theorem Tb(c:UInt8):∀s:List UInt8,(Ak c s).length=s.count c+1
 |[]=>rfl
 |x::s=>by
  have ih:=Tb c s;simp only[Ak];by_cases h:x=c
  ·rw[if_pos h,h];simp[ih]
  rw[if_neg h];have e:List.count c (x::s)=List.count c s:=List.count_cons_of_ne h;rw[e];cases hs:Ak c s with
  |nil=>rw[hs]at ih;simp at ih
  |cons p ps=>rw[hs]at ih;simp at ih ⊢;exact ih
theorem Qh7(A B:List Value)(k:Nat)(x y:Value)(h:A.length=k):(A++x::B).set k y=A++y::B:=by
 subst h;rw[List.set_append,if_neg aI];simp
theorem Qcz{w:World}{base k n g cap:Nat}{ps:List (List UInt8)}{ys:List Value}(h:w.ownsRow base 9 1 (.slice (g,0) n cap) n (B6 ps++ys))(hk:ps.length=k)(hlt:k<n)(s:List UInt8):
  ∃zs,(w.setCell ⟨g,k,none⟩ s).ownsRow base 9 1 (.slice (g,0) n cap) n (B6 (ps++[s])++zs)/\w.grownBy (w.setCell ⟨g,k,none⟩ s) (some g)/\w.frozen? ⟨g,k,none⟩=false/\∃u,w.cell? ⟨g,k,none⟩=some u:=by
 have hl:(B6 ps).length=k:=by simp[B6,hk]
 have h1:=h.1;rw[ai,hl]at h1;obtain⟨y,zs,rfl⟩:∃y zs,ys=y::zs:=by
  cases ys with
  |nil=>simp at h1;omega
  |cons y zs=>exact⟨y,zs,rfl⟩
 have hst:=h.stored k s;rw[Qh7 _ _ _ _ _ hl]at hst;have hc:=h.cellAt k aI;rw[List.getElem?_append_right aI,hl]at hc;simp at hc;exact⟨zs,by rw[Jt,List.append_assoc];exact hst.1,hst.2,h.frozenAt k,y,hc⟩
theorem Qk9{w:World}{base k n g cap:Nat}{ps:List (List UInt8)}{ys:List Value}(h:w.ownsRow base 9 1 (.slice (g,0) n cap) n (B6 ps++ys))(hk:ps.length=k)(hle:k<=n):
  w.ownsRow base 9 1 (.slice (g,0) k cap) k (B6 ps):=by
 rcases h.2 with⟨e,_⟩|⟨g',cap',cur,e,hb,hh,hnc,hcm,hcs,htk⟩
 ·cases e
 injection e with e1 e2 e3;injection e1 with e1;injection e1 with e1;subst e1;subst e3;refine⟨by simp[B6,hk],.inr ⟨g,cap,cur,rfl,hb,hh,by omega,hcm,hcs,?_⟩⟩;have hl:(B6 ps).length=k:=by simp[B6,hk]
 have:(cur.toList.take (n*1)).take (k*1)=(B6 ps++ys).take (k*1):=by rw[htk]
 rw[List.take_take,Nat.min_eq_left aI]at this;rw[this,List.take_append_of_le_length aI,av aI]
theorem Qcc(s:List UInt8)(c:UInt8)(w:World)(hs:s.length<=4000000):
  Calls prog 193 #[s,.string ⟨#[c]⟩,.int .i64 0,.int .i64 (-1)] w fun e w'=>
   ∃v,e=.returned v/\w'.ownsRow w 9 1 v (Ak c s).length (B6 (Ak c s))/\Below w w w':=by
 obtain⟨i0,hi,hz0,hz1,hz2⟩:=info_parts Pr;have hcnt:s.count c<=s.length:=List.count_le_length;have Hn:=Aa (Tb c s);have H0:=@Aa (Ak c s=[]++Ak c s) rfl;go_enter func193,ntmps193;go_wp2_with fail;refine(Qgh s c w).mono ?_;rintro e w' ⟨rfl,rfl⟩;obtain⟨n,hn⟩:∃n,n=s.count c:=⟨_,rfl⟩
 have HN:=Aa hn;rw[<-hn]at hcnt ⊢;clear hn;have hmin:min ((n:Int)+1) ((s.length:Int)+1)=(n:Int)+1:=aI;go_wp2_with (at_make;refine wpList_make_full _ rfl _ _ 31 rfl w 9 i0 aa 1 underlying31 hi hz0 hz1 .i64 .i64 _ _ (n+1) rfl rfl aI aI (by rw[hz2];omega) aY (Ao _) ?_;intro w0 hown0 hgrow0)
 go_loopw [0,10] (fun x i wr=>∃(ps:List (List UInt8)) (r:List UInt8) (k:Nat),i=.int .i64 k/\k<=n/\x=r/\r.length<=s.length/\ps.length=k/\Hid (Ak c s=ps++Ak c r)/\Hid (r.count c+k=n) /\
   Hid (∃ys,wr.ownsRow w 9 1 (.slice (w,0) (n+1) (n+1)) (n+1) (B6 ps++ys))/\Hid (Below w w wr)) (fun _ i _=>n - (intOf i).toNat)
 case atStart=>exact⟨[],s,0,rfl,ah _,rfl,Ao _,rfl,H0.o,by show _=_;have:=HN.o;omega,⟨_,hown0⟩,(Am _ _).grown hgrow0 (Ao _) aN⟩
 case round=>
  obtain⟨ps,r,k,rfl,hk,rfl,hr,hps,hsp,hct,hown,hb⟩:=hrel;have Hps:=Aa hps;clear hps;by_cases hlt:k<n
  ·have hmem:c∈r:=by
    have:=hct.o;exact List.count_pos_iff.1 aI
   have hix:∃p t,r=p++c::t/\c∉p/\Lib.indexByte r c=(p.length:Int):=by
    rcases Ku r c with⟨h,_⟩|h
    ·exact absurd hmem h
    exact h
   obtain⟨p,t,er,hp,e⟩:=hix;have Hi:=Aa (fun W=>Qg9 r c W);rw[e]at Hi;have hl:r.length=p.length+1+t.length:=by rw[er];simp;omega
   have H1:=Aa (show r.take p.length=p by rw[er];simp)
   have H2:=Aa (show r.drop (p.length+1)=t by
    rw[er,show p++c::t=(p++[c])++t by simp];exact List.drop_left' aN)
   have Hsp:=Aa (show Ak c s=(ps++[p])++Ak c t by rw[hsp.o,er,Mx c p t hp];simp)
   have Hct:=Aa (show t.count c+(k+1)=n by
    have h0:=hct.o;have h1:p.count c=0:=List.count_eq_zero.2 hp;rw[er,List.count_append,h1,List.count_cons_self]at h0;omega)
   obtain⟨ys,hown'⟩:=hown.o;obtain⟨zs,n1,n2,n3,u,n4⟩:=Qcz hown' Hps.o (by omega:k<n+1) p;have N1:=Aa (show (wr.setCell ⟨w.heap.size,k,none⟩ (.string ⟨(r.take p.length).toArray⟩)).ownsRow w 9 1 (.slice (w,0) (n+1) (n+1)) (n+1) (B6 (ps++[p])++zs)by rw[H1.o];exact n1);have N2:=@Aa (Below w w (wr.setCell ⟨w.heap.size,k,none⟩ (.string ⟨(r.take p.length).toArray⟩))) (hb.o.setCell (p:=⟨w.heap.size,k,none⟩) (Ao _) _);have k1:(0:Int)<=(p.length:Int):=aI;have k2:(p.length:Int)<=(r.length:Int):=aI;have k3:p.length+1<=r.length:=aI;clear e er hp hmem hown' n1 n2 hl;go_wp2_with fail;refine(Hi.o _).mono ?_;rintro e w' ⟨rfl,rfl⟩;go_wp2_with fail;go_roundw
   case rel=>exact⟨ps++[p],t,k+1,by go_num,by omega,Qjf H2.o,by have:=congrArg List.length H2.o;simp at this;omega,by rw[ai,Hps.o];rfl,Hsp.o,Hct.o,⟨zs,N1.o⟩,N2.o⟩
   case measure=>simp[intOf];omega
  ·obtain rfl:k=n:=aI;have hno:c∉r:=by
    have:=hct.o;exact List.count_eq_zero.1 aI
   have Hsp:=Aa (show Ak c s=ps++[r]by rw[hsp.o,G9 c r hno]);obtain⟨ys,hown'⟩:=hown.o;obtain⟨zs,n1,n2,n3,u,n4⟩:=Qcz hown' Hps.o (by omega:k<k+1) r;have N1:=Aa (Qk9 n1 (by rw[ai,Hps.o];rfl) (Ao _));have N2:=@Aa (Below w w (wr.setCell ⟨w.heap.size,k,none⟩ r)) (hb.o.setCell (p:=⟨w.heap.size,k,none⟩) (Ao _) _);clear hown' n1 n2 hno;go_wp2_with fail;go_ret;refine⟨_,rfl,?_,N2.o⟩;have e1:(Ak c s).length=k+1:=by rw[Hsp.o,ai,Hps.o];rfl
   rw[e1,Hsp.o];exact N1.o
theorem Vd(s:List UInt8)(c:UInt8)(w:World)(hs:s.length<=4000000):
  Calls prog 165 #[s,.string ⟨#[c]⟩] w fun e w'=>
   ∃v,e=.returned v/\w'.ownsRow w 9 1 v (Ak c s).length (B6 (Ak c s))/\Below w w w':=by
 go_enter func165,ntmps165;go_wp2_with fail;refine(Qcc s c _ hs).mono ?_;rintro e w' ⟨v,rfl,ho,hb⟩;have Ho:=Aa ho;have Hb:=Aa hb;clear ho hb;go_wp2_with fail;go_ret;exact⟨_,rfl,Ho.o,Hb.o⟩
def Qkj:List UInt8:=[97,98,99,100,101,102,103,104,105,106,107,108,109,110,111,112,113,114,115,116,117,118,119,120,121,122]
def Qe4:List UInt8:=[97,98,99,100,101,102,103,104,105,106,107,108,109,110,111,112,113,114,115,116,117,118,119,120,121,122,48,49,50,51,52,53,54,55,56,57,32]
theorem Re{p:UInt8->Bool}(h:∀n,n<256->p (UInt8.ofNat n)=true)(c:UInt8):p c=true:=by
 have:=h c.toNat c.toNat_lt;rwa [UInt8.ofNat_toNat]at this
theorem Qj3(c:UInt8):Qkj.contains c=J5 c:=by
 have:=Re (p:=fun c=>Qkj.contains c == J5 c) fX c;simpa using this
theorem Qcf(c:UInt8):Qe4.contains c=Cn c:=by
 have:=Re (p:=fun c=>Qe4.contains c == Cn c) fX c;simpa using this
theorem Qlc(s:List UInt8):s.all (Qkj.contains ·)=s.all J5:=by congr 1;funext c;exact Qj3 c
theorem Qkm(s:List UInt8):s.all (Qe4.contains ·)=s.all Cn:=by congr 1;funext c;exact Qcf c
theorem Mm(s:List UInt8)(w:World)(hs:s.length<=9223372036854775807):
  Calls prog 140 #[s] w fun e w'=>e=.returned (.bool (Be s))/\Below w w w':=by
 by_cases h1:1<=s.length
 ·by_cases h3:s.length<=3
  ·have hT:=fun W=>Qcl s Qkj W hs aL aL;simp only[Qlc]at hT;have HT:=Aa hT;have hn:Be s=s.all J5:=by simp[Be,h1,h3]
   have Hn:=Aa hn;clear hn hT;go_enter func140,ntmps140;go_wp2_with fail;refine(HT.o _).mono ?_;rintro e w' ⟨⟨r,rfl,hr⟩,hb⟩;cases r with
   |nil=>
    have Hr:=Aa (hr.1 rfl);clear hr;go_wp2_with fail;exact lA
   |cons x r=>
    have Hr:=Aa (show s.all J5=false by
     cases h:s.all J5 with
     |false=>rfl
     |true=>exact absurd (hr.2 h) aN)
    clear hr;go_wp2_with fail;exact lA
  have Hn:=Aa (show Be s=false by simp[Be,h3]);go_enter func140,ntmps140;go_wp2_with fail;exact lB
 have Hn:=Aa (show Be s=false by simp[Be,h1]);go_enter func140,ntmps140;go_wp2_with fail;exact lB
theorem Qfe(s:List UInt8)(w:World)(hs:s.length<=9223372036854775807):
  Calls prog 212 #[s] w fun e w'=>e=.returned (.bool (Dl s))/\Below w w w':=by
 by_cases h3:s.length<=12
 ·have hT:=fun W=>Qcl s Qe4 W hs aL aL;simp only[Qkm]at hT;have HT:=Aa hT;have hn:Dl s=s.all Cn:=by simp[Dl,h3]
  have Hn:=Aa hn;have t0:decide ((s.length:Int)<=12)=true:=aO;clear hn hT;go_enter func212,ntmps212;go_wp2_with fail;refine(HT.o _).mono ?_;rintro e w' ⟨⟨r,rfl,hr⟩,hb⟩;cases r with
  |nil=>
   have Hr:=Aa (hr.1 rfl);clear hr;go_wp2_with fail;exact lA
  |cons x r=>
   have Hr:=Aa (show s.all Cn=false by
    cases h:s.all Cn with
    |false=>rfl
    |true=>exact absurd (hr.2 h) aN)
   clear hr;go_wp2_with fail;exact lA
 have Hn:=Aa (show Dl s=false by simp[Dl,h3]);have t0:decide ((s.length:Int)<=12)=false:=aO;go_enter func212,ntmps212;go_wp2_with fail;exact lB
def pnV(s:List UInt8)(m:Nat):Value:=
 match Cw s with
 |none=>.tuple #[.int .i64 0,.bool false]
 |some n=>.tuple #[.int .i64 n,.bool (decide (n<=m))]
theorem St{s:List UInt8}{m:Nat}(h:Cw s=none):pnV s m=.tuple #[.int .i64 0,.bool false]:=by unfold pnV;rw[h]
theorem Xz{s:List UInt8}{m n:Nat}(h:Cw s=some n):pnV s m=.tuple #[.int .i64 n,.bool (decide (n<=m))]:=by unfold pnV;rw[h]
theorem Qbq(s:List UInt8)(k:Nat)(hk:k<=6)(h:(s.take k).all Bm=true):Gr (s.take k)<=999999:=by
 exact kU
theorem Jl(s:List UInt8)(m:Nat)(w:World)(hs:s.length<=9223372036854775807)(hm:m<=999999):
  Calls prog 175 #[s,.int .i64 m] w fun e w'=>e=.returned (pnV s m)/\w=w':=by
 rcases aH s.length 1 with h1|h1
 ·obtain rfl:s=[]:=List.eq_nil_of_length_eq_zero aI;have Hn:=Aa (St (m:=m) (show Cw []=none by rfl));go_enter func175,ntmps175;go_wp2_with fail;go_ret2;exact lC
 rcases aH 6 s.length with h6|h6
 ·have Hn:=Aa (St (m:=m) (show Cw s=none by unfold Cw;rw[if_neg];rintro⟨_,h,_⟩;omega));go_enter func175,ntmps175;go_wp2_with fail;go_ret2;exact lC
 have hc0:=(s[0]' aI).toNat_lt;have h3:(s[0]' aI=48/\1<s.length)\/((((s[0]' aI).toNat:Int) == 48)=true/\s.length<=1)\/((((s[0]' aI).toNat:Int) == 48)=false):=by
  by_cases h:s[0]' aI=48
  ·rcases aH 1 s.length with h'|h'
   ·exact .inl ⟨h,h'⟩
   exact .inr (.inl ⟨Bl h,h'⟩)
  exact .inr (.inr (Ap h))
 have hhd:(s.head?≠some 48\/s.length=1)\/(s[0]' aI=48/\1<s.length):=by
  rcases h3 with h|⟨_,h⟩|h
  ·exact .inr h
  ·exact .inl (.inr aI)
  refine .inl (.inl ?_);rw[List.head?_eq_getElem?,List.getElem?_eq_getElem aI];intro e;injection e with e;rw[e]at h;exact absurd h aL
 have Hhd:=Aa hhd;clear hhd;rcases h3 with⟨hz,hl⟩|⟨t0,hl⟩|t0
 ·have Hn:=Aa (St (m:=m) (show Cw s=none by
   unfold Cw;rw[if_neg];rintro⟨_,_,_,h|h⟩
   ·apply h;rw[List.head?_eq_getElem?,List.getElem?_eq_getElem aI,hz]
   omega))
  have t0:(((s[0]' aI).toNat:Int) == 48)=true:=Bl hz;have Hz:=Aa hz;go_enter func175,ntmps175;go_wp2_with fail;go_ret2;exact lC
 all_goals
  have Hall:Hid (s.head?≠some 48\/s.length=1):=by
   rcases Hhd.o with h|⟨e,h⟩
   ·exact h
   exfalso
   first
    |omega
    |(rw[e]at t0;exact absurd t0 aL)
  clear Hhd;go_enter func175,ntmps175;go_wp2_with fail;go_loop [6,28] (fun x i=>∃k:Nat,i=.int .i64 k/\k<=s.length/\Hid ((s.take k).all Bm=true)/\Gr (s.take k)<=999999/\x=.int .i64 ((Gr (s.take k):Nat):Int)) (fun _ i=>s.length - (intOf i).toNat)
  case atStart=>exact⟨0,rfl,ah _,by simp[Hid],by simp[Gr],by simp[Gr]⟩
  case round=>
   obtain⟨k,rfl,hk,hdig,hv,rfl⟩:=hrel;by_cases hlt:k<s.length
   ·have hc:=(s[k]).toNat_lt;have Hts:=Aa (Ch s k hlt);by_cases hd:Bm s[k]=true
    ·have hd2:=Do.1 hd;obtain⟨d1,d2⟩:=hd2;have hdig2:(s.take (k+1)).all Bm=true:=by
      rw[Hts.o,List.all_append,hdig.o];simp[hd]
     have hv2:=Qbq s (k+1) aI hdig2;have Hdig2:=Aa hdig2;have Hv:=Aa (show Gr (s.take (k+1))=10*Gr (s.take k)+((s[k]).toNat - 48)by rw[Hts.o,Mh]);clear hd hdig2;go_wp2_with fail;go_round
     case rel=>exact⟨k+1,by go_num,by omega,Hdig2.o,hv2,Qk2 (by rw[Hv.o];omega)⟩
     case measure=>simp[intOf];omega
    have Hn:=Aa (St (m:=m) (show Cw s=none by
     unfold Cw;rw[if_neg];rintro⟨_,_,h,_⟩;exact hd (List.all_eq_true.1 h _ (af hlt))))
    have h2:(s[k]).toNat<48\/(48<=(s[k]).toNat/\57<(s[k]).toNat):=by
     rcases aH (s[k]).toNat 48 with h|h
     ·exact .inl h
     rcases aH 57 (s[k]).toNat with h'|h'
     ·exact .inr ⟨h,h'⟩
     exact absurd (Do.2 ⟨h,h'⟩) hd
    clear hd;rcases h2 with h2|⟨h2,h4⟩
    ·go_wp2_with fail;go_ret2;exact lC
    go_wp2_with fail;go_ret2;exact lC
   ·have e:s.take k=s:=av aI
    have Hn:=Aa (Xz (m:=m) (show Cw s=some (Gr (s.take k))by
     have hd:=hdig.o;rw[e]at hd ⊢;unfold Cw;rw[if_pos ⟨by omega,by omega,hd,Hall.o⟩]))
    clear e;generalize Gr (s.take k)=v at hv Hn;by_cases hvm:v<=m
    ·go_wp2_with fail;go_ret2;exact⟨by rw[Hn.o];exact Qkv rfl (C0 (by simp[hvm])),rfl⟩
    go_wp2_with fail;go_ret2;exact⟨by rw[Hn.o];exact Qkv rfl (C0 aO),rfl⟩
theorem Qm(n:Nat)(w:World)(hn:n<10):
  Calls prog 75 #[.int .i64 n] w fun e w'=>e=.returned (.string ⟨(Bb n).toArray⟩)/\Below w w w':=by
 have Hfin:=Aa (Ey hn);have hcv:=fun W=>Kx W w 1 (C9 (48+n));rw[Dd aI]at hcv;go_enter func75,ntmps75;go_wp2_with fail;exact kR
theorem Qr:∀(k n:Nat) (w:World),n<=k->n<=1000000000 ->
  Calls prog 75 #[.int .i64 n] w fun e w'=>e=.returned (.string ⟨(Bb n).toArray⟩)/\Below w w w':=by
 intro k;induction k with
 |zero=>intro n w hn h;exact Qm n w aI
 |succ k ih=>
  intro n w hn h;by_cases h10:n<10
  ·exact Qm n w h10
  have Hfin:=Aa (N4 h10);have Hs:=Aa (Ey (show n % 10<10 by omega));have Ih:=Aa (fun W=>ih (n / 10) W aI aI);have hl:=Db 8 (n / 10) gD;have e1:((n:Int) / 10)=((n / 10:Nat):Int):=aI;have e2:((n:Int) % 10)=((n % 10:Nat):Int):=aI;have E1:=Aa e1;have E2:=Aa e2;clear ih e1 e2;go_enter func75,ntmps75;go_wp2_with fail;rw[E1.o];refine(Ih.o _).mono ?_;rintro e w1 ⟨rfl,hb1⟩;have Hb1:=Aa hb1;clear hb1;go_wp2_with fail;rw[E2.o];refine(Qm (n % 10) w1 aI).mono ?_;rintro e w2 ⟨rfl,hb2⟩;have Hb2:=Aa (Hb1.o.trans (hb2.mono Hb1.o.size));rw[Hs.o];clear hb2;go_wp2_with fail;go_ret;exact⟨by rw[Hfin.o];rfl,Hb2.o⟩
def Qlf(b:List UInt8):Prop:=b=[110]\/b=[116]\/b=[102]\/b=[64]
theorem Qh4{s:List UInt8}:Cc [110] s=(match Cw s with|some n=>decide (0<n)|none=>false):=rfl
theorem Qhn{s:List UInt8}:Cc [116] s=(decide (2<s.length) && decide (s.head?=some 39) && decide (s.getLast?=some 39) && Dl (s.drop 1).dropLast):=rfl
theorem Qhm{s:List UInt8}:Cc [102] s=decide (s=[121,101,115]):=rfl
theorem Qe9(s:List UInt8)(w:World)(hs:s.length<=4000000):
  Calls prog 194 #[.string ⟨#[110]⟩,s] w fun e w'=>e=.returned (.bool (Cc [110] s))/\Below w w w':=by
 have Hp:=Aa (fun W=>Jl s 999999 W aI aI);have Hf:=Aa (Qh4 (s:=s));cases hd:Cw s with
 |none=>
  rw[hd]at Hf;have Hv:=Aa (St (m:=999999) hd);clear hd;go_enter func194,ntmps194;go_wp2_with fail;refine(Hp.o _).mono ?_;rintro e w' ⟨rfl,rfl⟩;rw[Hv.o];go_wp2_with fail;go_ret;exact⟨Ej (C0 Hf.o.symm),Am _ _⟩
 |some n=>
  rw[hd]at Hf;have h9:=(Cj.1 hd).1;have Hv:=Aa (Xz (m:=999999) hd);have t1:decide (n<=999999)=true:=by simp;exact h9
  clear hd;rcases aH 0 n with hn|hn;all_goals
   go_enter func194,ntmps194;go_wp2_with fail;refine(Hp.o _).mono ?_;rintro e w' ⟨rfl,rfl⟩;rw[Hv.o,t1];go_wp2_with fail;go_ret;exact⟨Ej (C0 (by rw[Hf.o];first|done|(simp;try omega))),Am _ _⟩
theorem Qe5(s:List UInt8)(w:World)(hs:s.length<=4000000):
  Calls prog 194 #[.string ⟨#[102]⟩,s] w fun e w'=>e=.returned (.bool (Cc [102] s))/\Below w w w':=by
 have Hf:=Aa (Qhm (s:=s));by_cases hy:s=[121,101,115]
 ·subst hy;go_enter func194,ntmps194;go_wp2_with fail;go_ret;exact⟨Ej (C0 (by rw[Hf.o];simp)),Am _ _⟩
 have Hy:=Aa (show decide (s=[121,101,115])=false by simpa using hy);have ty:(s == [121,101,115])=false:=eD;clear hy;go_enter func194,ntmps194;go_wp2_with fail;go_ret;exact⟨Ej (C0 (by rw[Hf.o,Hy.o])),Am _ _⟩
theorem Qd3(s:List UInt8)(w:World):
  Calls prog 194 #[.string ⟨#[64]⟩,s] w fun e w'=>e=.returned (.bool (Cc [64] s))/\Below w w w':=by
 go_enter func194,ntmps194;go_wp2_with fail;exact lD
theorem Qfm(s:List UInt8)(w:World)(hs:s.length<=4000000):
  Calls prog 194 #[.string ⟨#[116]⟩,s] w fun e w'=>e=.returned (.bool (Cc [116] s))/\Below w w w':=by
 have hf:=Qhn (s:=s);rcases aH 2 s.length with h2|h2
 ·obtain⟨c,u,d,rfl⟩:∃c u d,s=c::(u++[d]):=by
   cases s with
   |nil=>simp at h2
   |cons c t=>
    rcases Fi t with rfl|⟨u,d,rfl⟩
    ·simp at h2
    exact⟨c,u,d,rfl⟩
  have hl:(c::(u++[d])).getLast?=some d:=by
   exact kP
  have hu:((c::(u++[d])).drop 1).dropLast=u:=aN;rw[hl,hu]at hf;have t0:decide (2<(c::(u++[d])).length)=true:=fk;rw[t0]at hf;simp only[List.head?_cons,ak,Bool.true_and]at hf;have Hf:=Aa hf;have hc:=c.toNat_lt;have hd:=d.toNat_lt;have hgd:∀h,(c::(u++[d]))[u.length+1]'h=d:=by intro h;simp
  have hsl:(List.take u.length (u++[d]))=u:=aN;have hul:2<=u.length+1:=by simp at h2;omega
  have hul2:u.length<=4000000:=gS;clear hf hl hu h2 hs t0;by_cases hc39:c=39
  ·have t1:((c.toNat:Int) == 39)=true:=Bl hc39;have Hc:=Aa (show decide (c=39)=true by simpa using hc39);clear hc39;by_cases hd39:d=39
   ·have t2:((d.toNat:Int) == 39)=true:=Bl hd39;have Hd:=Aa (show decide (d=39)=true by simpa using hd39);clear hd39;go_enter func194,ntmps194;go_wp2_with fail;refine(Qfe u _ aI).mono ?_;rintro e w' ⟨rfl,hb⟩;go_wp2_with fail;go_ret;exact⟨Ej (C0 (by rw[Hf.o,Hc.o,Hd.o];simp)),hb⟩
   have t2:((d.toNat:Int) == 39)=false:=Ap hd39;have Hd:=Aa (show decide (d=39)=false by simpa using hd39);clear hd39;go_enter func194,ntmps194;go_wp2_with fail;go_ret;exact⟨Ej (C0 (by rw[Hf.o,Hd.o];simp)),Am _ _⟩
  have t1:((c.toNat:Int) == 39)=false:=Ap hc39;have Hc:=Aa (show decide (c=39)=false by simpa using hc39);clear hc39;go_enter func194,ntmps194;go_wp2_with fail;go_ret;exact⟨Ej (C0 (by rw[Hf.o,Hc.o];simp)),Am _ _⟩
 have e0:decide (2<s.length)=false:=aO;have Hf:=Aa (show Cc [116] s=false by rw[hf,e0];simp);clear e0;have t0:decide (2<(s.length:Int))=false:=aO;clear hf;go_enter func194,ntmps194;go_wp2_with fail;go_ret;exact⟨Ej (C0 Hf.o.symm),Am _ _⟩
theorem Qbv(b s:List UInt8)(w:World)(hb:Qlf b)(hs:s.length<=4000000):
  Calls prog 194 #[b,s] w fun e w'=>e=.returned (.bool (Cc b s))/\Below w w w':=by
 rcases hb with rfl|rfl|rfl|rfl
 ·exact Qe9 s w hs
 ·exact Qfm s w hs
 ·exact Qe5 s w hs
 exact Qd3 s w
theorem Ah{B:Nat}{w w':World}{b o:Nat}{cs:List Value}(h:w.rangeAt b o cs)(hb:b<B)(hw:Below B w w'):w'.rangeAt b o cs:=fun j v hv=>(hw.cell (p:=⟨b,o+j,none⟩) hb).trans (h j v hv)
theorem An{B:Nat}{w w':World}{b o n:Nat}(h:w.there b o n)(hb:b<B)(hw:Below B w w'):w'.there b o n:=fun j hj=>by
 rw[hw.cell (p:=⟨b,o+j,none⟩) hb,hw.frozen (p:=⟨b,o+j,none⟩) hb];exact h j hj
theorem C5{w w':World}{b o:Nat}{cs:List Value}{row:Option Nat}(h:w.rangeAt b o cs)(hg:w.grownBy w' row)(hne:some b≠row):w'.rangeAt b o cs:=fun j v hv=>hg.cell (h j v hv) hne
theorem Eo{w w':World}{b o n:Nat}{row:Option Nat}(h:w.there b o n)(hg:w.grownBy w' row)(hb:b<w.heap.size)(hne:some b≠row):w'.there b o n:=fun j hj=>by
 rw[hg.cell_far ⟨b,o+j,none⟩ hb hne,hg.frozen_far ⟨b,o+j,none⟩ hb hne];exact h j hj
theorem Me{w:World}{b o n:Nat}(h:w.there b o n)(p m:Nat)(h1:o<=p)(h2:p+m<=o+n):w.there b p m:=fun j hj=>by
 have:=h (p+j - o) aI;rwa [show o+(p+j - o)=p+j by omega]at this
theorem Br(w:World)(cs:List Value)(t:TypeId):(w.alloc (.cells cs.toArray t)).rangeAt w 0 cs:=fun j v hv=>by
 rw[World.cell?_alloc_new];simpa using hv
theorem B9(w:World)(cs:List Value)(t:TypeId):(w.alloc (.cells cs.toArray t)).there w 0 cs.length:=fun j hj=>by
 refine⟨?_,by simp⟩;rw[World.cell?_alloc_new];simp;omega
theorem Aj{B:Nat}{a:World}(b:Nat)(hb:B<=b):∀(vs:List Value) (o:Nat) (w:World),Below B a w->Below B a (w.setCells b o vs)
 |[],_,_,h=>h
 |v::r,o,w,h=>Aj b hb r (o+1) _ (h.setCell hb v)
theorem Cg(b:Nat):∀(vs:List Value) (o:Nat) (w:World),(w.setCells b o vs).heap.size=w.heap.size
 |[],_,_=>rfl
 |v::r,o,w=>by rw[World.setCells,Cg b r];simp
theorem Ac{w:World}{b o:Nat}{cs:List Value}(h:w.rangeAt b o cs)(j:Nat){v:Value}(hv:cs[j]?=some v):w.cell? ⟨b,o+j,none⟩=some v:=h j v hv
theorem Qb9{w:World}{b o:Nat}(l1 l2 l3:List Value)(h:w.rangeAt b o (l1++(l2++l3))):w.rangeAt b (o+l1.length) l2:=fun j v hv=>by
 have hj:=(List.getElem?_eq_some_iff.1 hv).1;rw[Nat.add_assoc];exact h _ v (by rw[List.getElem?_append_right aI,Nat.add_sub_cancel_left,List.getElem?_append_left hj];exact hv)
theorem Ck{w:World}{b:Nat}(l1 l2 l3 l2':List Value)(h:w.rangeAt b 0 (l1++(l2++l3)))(hl:l2'.length=l2.length):(w.setCells b l1.length l2').rangeAt b 0 (l1++(l2'++l3)):=fun j v hv=>by
 have hjl:j<l1.length+(l2'.length+l3.length):=by
  have:=(List.getElem?_eq_some_iff.1 hv).1;simpa using this
 have hsome:∀i,i<l2'.length->(w.cell? ⟨b,l1.length+i,none⟩).isSome=true:=fun i hi=>by
  have e:(l1++(l2++l3))[l1.length+i]?=some (l2[i]' aI):=by
   rw[List.getElem?_append_right aI,List.getElem?_append_left aI,Nat.add_sub_cancel_left,List.getElem?_eq_getElem aI]
  have:=h _ _ e;rw[ao]at this;rw[this];rfl
 rw[ao];rcases aH j l1.length with h1|h1
 ·rw[World.cell?_setCells_out b l2' l1.length w ⟨b,j,none⟩ (fun _ _=>.inl h1)];rw[List.getElem?_append_left h1]at hv;have:=h j v (by rw[List.getElem?_append_left h1];exact hv);rwa [ao]at this
 rw[List.getElem?_append_right h1]at hv;rcases aH (j - l1.length) l2'.length with h2|h2
 ·rw[List.getElem?_append_left h2,List.getElem?_eq_getElem h2]at hv;have:=World.cell?_setCells_in b l2' l1.length w hsome (j - l1.length) h2;rw[show l1.length+(j - l1.length)=j by omega]at this;rw[this];exact hv
 rw[World.cell?_setCells_out b l2' l1.length w ⟨b,j,none⟩ (fun _ _=>.inr (by show l1.length+l2'.length<=j;omega))];rw[List.getElem?_append_right h2]at hv;have:=h j v (by rw[List.getElem?_append_right h1,List.getElem?_append_right aI,<-hl];exact hv);rwa [ao]at this
section
variable {P:Program}
theorem Af{ops:Array Oper}{rest:List Oper}{op:Oper}{a:Act}{w:World}{Q:Exit->Act->World->Prop}(hgd:op.guard=none)(ty:TypeId)(x y:Operand)(ho:op.op=.store ty x y)
  (b o:Nat) (cs:List Value) (hx:a.eval x=.pointer (some ⟨b,o,none⟩)) (hy:a.eval y=.agg cs.toArray)
  (ht:w.there b o cs.length) (hi:(P.info? ty).map (·.size)=some cs.length) (h1:∀v∈cs,v.oneCell'=true)
  (h:∀w',Hid (w'=w.setCells b o cs)->wpList P ops Q rest (a.put op.dst undef) w'):wpList P ops Q (op::rest) a w:=
 wpList_store_mid hgd ty x y ho b o cs.toArray hx hy fm ey (all_oneCell_toArray h1) (h _ rfl)
theorem As{fn:Func}{p q:Tmp}{ty:TypeId}(h:fn.results=#[.cell p ty,.tmp q])(tmps:Array Value)(w:World)(b:Nat)(cs:List Value)(d:TypeDesc)(x:Value)
  (hp:tmps.getD p undef=b) (hq:tmps.getD q undef=x) (hc:w.rangeAt b 0 cs) (hu:P.underlying ty=some d) (hd:d.isRow=true) (hi:(P.info? ty).map (·.size)=some cs.length):
  (results fn tmps).run P w=.ok (.tuple #[.agg cs.toArray,x]) w:=by
 have hp':tmps[p]?.getD undef=b:=ez;have hq':tmps[q]?.getD undef=x:=ge;simp[results,h,hp',hq',asAddr,run_loadVar_mid w b 0 ty cs d hc hu hd hi]
theorem Gw{fn:Func}{r p q:Tmp}{ty:TypeId}(h:fn.results=#[.tmp r,.cell p ty,.tmp q])(tmps:Array Value)(w:World)(b:Nat)(cs:List Value)(d:TypeDesc)(y x:Value)
  (hr:tmps.getD r undef=y) (hp:tmps.getD p undef=b) (hq:tmps.getD q undef=x) (hc:w.rangeAt b 0 cs) (hu:P.underlying ty=some d) (hd:d.isRow=true) (hi:(P.info? ty).map (·.size)=some cs.length):
  (results fn tmps).run P w=.ok (.tuple #[y,.agg cs.toArray,x]) w:=by
 have hp':tmps[p]?.getD undef=b:=ez;have hq':tmps[q]?.getD undef=x:=ge;have hr':tmps[r]?.getD undef=y:=eC;simp[results,h,hp',hq',hr',asAddr,run_loadVar_mid w b 0 ty cs d hc hu hd hi]
end
abbrev Da:=Cl × Cl
def Xn(S T:List Ty)(K:Kd->Kd->List Da->Bool × List Da)(t:Ty)(st:UInt8):List Fd->List Da->Bool × List Da
 |[],m=>(true,m)
 |g::gs,m=>match Au t.fields g.tag with
  |none=>if st=82 then Xn S T K t st gs m else(false,m)
  |some f=>if st=69 then Xn S T K t st gs m else
    if (K f.kind g.kind m).1=false then(false,(K f.kind g.kind m).2)
    else if st=82/\Jf S f≠Jf T g then(false,(K f.kind g.kind m).2)
    else Xn S T K t st gs (K f.kind g.kind m).2
def evT(S T:List Ty)(K:Kd->Kd->List Da->Bool × List Da)(t u:Ty)(m:List Da):Bool × List Da:=
 if t.sort≠u.sort then(false,m)else Xn S T K t u.sort u.fields m
def J4(S T:List Ty):Nat->Kd->Kd->List Da->Bool × List Da
 |0,_,_,m=>(true,m)
 |n+1,a,b,m=>
  if a.signs≠b.signs\/a.base≠b.base then(false,m)
  else if a.base≠[64]then(true,m)
  else match Bp S a.name,Bp T b.name with
   |some t,some u=>if (a.name,b.name)∈m then(true,m)else evT S T (J4 S T n) t u (m++[(a.name,b.name)])
   |_,_=>(false,m)
def Kv(S T:List Ty)(m:List Da):Prop:=m.Nodup/\∀p∈m,p.1∈Fx S/\p.2∈Fx T
theorem Kv.nil(S T:List Ty):Kv S T []:=⟨List.nodup_nil,by simp⟩
theorem Kv.snoc{S T:List Ty}{m:List Da}{a b:Cl}(h:Kv S T m)(ha:a∈Fx S)(hb:b∈Fx T)(hn:(a,b)∉m):Kv S T (m++[(a,b)]):=by
 refine⟨?_,?_⟩
 ·rw[List.nodup_append];refine⟨h.1,by simp,?_⟩;intro x hx y hy;simp only[ar]at hy;subst hy;rintro rfl;exact hn hx
 intro p hp;rcases ag.1 hp with hp|hp
 ·exact h.2 p hp
 simp only[ar]at hp;subst hp;exact⟨ha,hb⟩
theorem Qcr:∀(l m:List Da),l.Nodup->(∀x∈l,x∈m)->l.length<=m.length
 |[],m,_,_=>aN
 |x::l,m,hn,hs=>by
  have hx:=hs x aN;have:=Qcr l (m.erase x) (List.nodup_cons.1 hn).2 (fun y hy=>(List.mem_erase_of_ne (by rintro rfl;exact(List.nodup_cons.1 hn).1 hy)).2 (hs y fB));rw[List.length_erase_of_mem hx]at this;have:=List.length_pos_of_mem hx;simp only[List.length_cons];omega
def Qd4(a b:List Cl):List Da:=a.flatMap fun x=>b.map fun y=>(x,y)
theorem Qa3(b:List Cl):∀a,(Qd4 a b).length=a.length*b.length
 |[]=>by simp[Qd4]
 |x::a=>by
  have:=Qa3 b a;unfold Qd4 at this ⊢;rw[List.flatMap_cons,ai,List.length_map,this,List.length_cons,Nat.add_mul];omega
theorem Kv.len{S T:List Ty}{m:List Da}(h:Kv S T m):m.length<=S.length*T.length:=by
 have:=Qcr m (Qd4 (Fx S) (Fx T)) h.1 (fun x hx=>by
  obtain⟨a,b⟩:=x;have:=h.2 _ hx;unfold Qd4;rw[List.mem_flatMap];exact⟨a,this.1,ay.2 ⟨b,this.2,rfl⟩⟩)
 rw[Qa3]at this;simpa [Fx]using this
def Qik(S T:List Ty)(K:Kd->Kd->List Da->Bool × List Da):Prop:=∀a b m,Kv S T m->Kv S T (K a b m).2/\∃l,(K a b m).2=m++l
theorem Mi{S T:List Ty}{K:Kd->Kd->List Da->Bool × List Da}(hK:Qik S T K)(t:Ty)(st:UInt8):∀(gs:List Fd) (m:List Da),Kv S T m->Kv S T (Xn S T K t st gs m).2/\∃l,(Xn S T K t st gs m).2=m++l
 |[],m,h=>⟨h,[],by simp[Xn]⟩
 |g::gs,m,h=>by
  unfold Xn;cases Au t.fields g.tag with
  |none=>
   simp only;split
   ·exact Mi hK t st gs m h
   exact⟨h,[],by simp⟩
  |some f=>
   simp only;split
   ·exact Mi hK t st gs m h
   obtain⟨h1,l1,e1⟩:=hK f.kind g.kind m h;split
   ·exact⟨h1,l1,e1⟩
   split
   ·exact⟨h1,l1,e1⟩
   obtain⟨h2,l2,e2⟩:=Mi hK t st gs _ h1;exact⟨h2,l1++l2,by rw[e2,e1,List.append_assoc]⟩
theorem Nw(S T:List Ty):∀n,Qik S T (J4 S T n)
 |0=>fun a b m h=>⟨h,[],by simp[J4]⟩
 |n+1=>fun a b m h=>by
  unfold J4;split
  ·exact⟨h,[],by simp⟩
  split
  ·exact⟨h,[],by simp⟩
  cases hs:Bp S a.name with
  |none=>exact⟨h,[],by simp⟩
  |some t=>cases ht:Bp T b.name with
   |none=>exact⟨h,[],by simp⟩
   |some u=>
    simp only;split
    ·exact⟨h,[],by simp⟩
    rename_i hn;have h1:=h.snoc (Gg.1 (by rw[hs];rfl)) (Gg.1 (by rw[ht];rfl)) hn;unfold evT;split
    ·exact⟨h1,_,rfl⟩
    obtain⟨h2,l2,e2⟩:=Mi (Nw S T n) t u.sort u.fields _ h1;exact⟨h2,[(a.name,b.name)]++l2,by rw[e2];simp⟩
def Jq(S T:List Ty)(a b:Kd):Bool:=(J4 S T 65 a b []).1
def Dt(x y:Option (List Ty × Kd)):Bool:=match x,y with
 |some (S,a),some (T,b)=>Jq S T a b
 |_,_=>false
end
end Go.Proofs.YtpjijpcemejlnaaGreatDoor
