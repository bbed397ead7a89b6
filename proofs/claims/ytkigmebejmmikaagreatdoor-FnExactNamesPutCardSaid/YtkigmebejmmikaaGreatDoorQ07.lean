/- Texts joined. Conditions: as each theorem names them. -/
import Derived.Lib.Builder
import Derived.Lib.AppendStr
import Derived.Lib.UnsafeStr
import Derived.Lib.MakeNoZero
import Derived.Laws.Externs
import Derived.Laws.BitsLemmas
import Derived.RegionTactic
import Derived.Laws.AppendOwnNone
import Derived.Laws.Append
import Derived.Deep.DeepAppendRoom
import Derived.Deep.DeepAppendWide
import Derived.Deep.RegionWith
import Derived.Test.YtkigmebejmmikaaGreatDoorQ01
import Derived.Test.YtkigmebejmmikaaGreatDoorQ03
import Derived.Test.YtkigmebejmmikaaGreatDoorQ05
import Derived.Test.YtkigmebejmmikaaGreatDoorQ06
set_option maxRecDepth 100000
set_option maxHeartbeats 32000000
set_option linter.unusedVariables false
set_option linter.unusedSimpArgs false
namespace Go.Proofs.YtkigmebejmmikaaGreatDoor
open Go.RowKit Go.Proofs.Tryz
section
variable {α β:Type}
def Mu(k:α->List UInt8)(x:α):List α->List α
 |[]=>[x]
 |y::l=>if k y<k x then y::Mu k x l else x::y::l
def Ex(k:α->List UInt8)(l:List α):List α:=l.foldl (fun a x=>Mu k x a) []
theorem Xl(k:α->List UInt8)(l:List α)(x:α):Ex k (l++[x])=Mu k x (Ex k l):=by simp[Ex]
theorem Rb(k:α->List UInt8)(x:α):∀l,(Mu k x l).Perm (x::l)
 |[]=>List.Perm.refl _
 |y::l=>by
  unfold Mu
  split
  ·exact((Rb k x l).cons y).trans (List.Perm.swap x y l)
  exact List.Perm.refl _
theorem Tu(k:α->List UInt8):∀(l a:List α),(l.foldl (fun a x=>Mu k x a) a).Perm (l++a)
 |[],a=>List.Perm.refl _
 |x::l,a=>by
  refine(Tu k l (Mu k x a)).trans ?_
  refine((Rb k x a).append_left l).trans ?_
  exact List.perm_middle
theorem Gr(k:α->List UInt8)(l:List α):(Ex k l).Perm l:=by
 have:=Tu k l []
 rwa [List.append_nil]at this
theorem Zf(k:α->List UInt8)(kb:β->List UInt8)(f:α->β)(h:∀x,kb (f x)=k x)(x:α):∀l,Mu kb (f x) (l.map f)=(Mu k x l).map f
 |[]=>rfl
 |y::l=>by
  unfold Mu
  rw[List.map_cons]
  simp only[h]
  split
  ·rw[Zf k kb f h x l];rfl
  rfl
theorem Qav(k:α->List UInt8)(kb:β->List UInt8)(f:α->β)(h:∀x,kb (f x)=k x)(l:List α):Ex kb (l.map f)=(Ex k l).map f:=by
 have:∀(l a:List α),(l.map f).foldl (fun a x=>Mu kb x a) (a.map f)=(l.foldl (fun a x=>Mu k x a) a).map f:=by
  intro l
  induction l with
  |nil=>intro a;rfl
  |cons x l ih=>intro a;rw[List.map_cons,List.foldl_cons,List.foldl_cons,Zf k kb f h,ih]
 exact this l []
theorem Rt(k:α->List UInt8)(x:α):∀l,l.Pairwise (fun a b=>k a<=k b)->(Mu k x l).Pairwise fun a b=>k a<=k b
 |[],_=>List.pairwise_singleton _ _
 |y::l,h=>by
  rw[List.pairwise_cons]at h
  unfold Mu
  split
  ·rename_i hlt
   refine List.pairwise_cons.2 ⟨fun z hz=>?_,Rt k x l h.2⟩
   rcases List.mem_cons.1 ((Rb k x l).mem_iff.1 hz)with rfl|hz
   ·exact List.le_of_lt hlt
   exact h.1 z hz
  rename_i hlt
  have hle:k x<=k y:=List.not_lt.1 hlt
  refine List.pairwise_cons.2 ⟨fun z hz=>?_,List.pairwise_cons.2 h⟩
  rcases List.mem_cons.1 hz with rfl|hz
  ·exact hle
  exact List.le_trans hle (h.1 z hz)
theorem Zi(k:α->List UInt8)(l:List α):(Ex k l).Pairwise fun a b=>k a<=k b:=by
 have:∀(l a:List α),a.Pairwise (fun a b=>k a<=k b)->(l.foldl (fun a x=>Mu k x a) a).Pairwise fun a b=>k a<=k b:=by
  intro l
  induction l with
  |nil=>intro a h;exact h
  |cons x l ih=>intro a h;exact ih _ (Rt k x a h)
 exact this l [] List.Pairwise.nil
theorem Qd1(k:α->List UInt8){l m:List α}(hm:m.Perm l)(hs:m.Pairwise fun a b=>k a<=k b)(hd:∀a∈l,∀b∈l,k a=k b->a=b):m=Ex k l:=
 List.Perm.eq_of_pairwise (le:=fun a b=>k a<=k b) (fun a b ha hb h1 h2=>hd a (hm.mem_iff.1 ha) b ((Gr k l).mem_iff.1 hb) (List.le_antisymm h1 h2)) hs (Zi k l) (hm.trans (Gr k l).symm)
theorem Yf(k:α->List UInt8)(x:α):∀(l:List α) (n:Nat),n<=l.length->(∀y∈l.take n,k y<k x)->(∀h:n<l.length,¬k l[n]<k x)->Mu k x l=l.take n++x::l.drop n
 |[],n,hn,_,_=>by simp at hn;subst hn;rfl
 |y::l,0,_,_,h=>by
  have:=h (by simp)
  simp only[List.getElem_cons_zero]at this
  rw[Mu,if_neg this];rfl
 |y::l,n+1,hn,h1,h2=>by
  rw[Mu,if_pos (h1 y (by simp)),Yf k x l n (by simpa using hn) (fun z hz=>h1 z (by simp[hz])) (fun h=>by have:=h2 (by simpa using h);rwa [List.getElem_cons_succ]at this)]
  rfl
end
def Ed(S:List Ty)(k:Kd)(g:Nat):List UInt8:=match By S k.name with
 |some t=>(match Bg t.fields g with|some f=>f.name|none=>[])
 |none=>[]
theorem Eu{S:List Ty}{k:Kd}{t:Ty}{f:Fd}(ht:By S k.name=some t)(hf:Bg t.fields f.tag=some f):Ed S k f.tag=f.name:=by unfold Ed;rw[ht];simp only;rw[hf]
theorem Qgi{st:UInt8}:∀{fs:List Fd},Fds st fs->∀f∈fs,∀g∈fs,f.name=g.name->f=g:=by
 intro fs h f hf g hg e
 have hp:=h.2
 obtain⟨i,hi,rfl⟩:=List.getElem_of_mem hf
 obtain⟨j,hj,rfl⟩:=List.getElem_of_mem hg
 rw[List.pairwise_iff_getElem]at hp
 rcases Nat.lt_trichotomy i j with h1|h1|h1
 ·exact absurd e (hp i j hi hj h1).1
 ·subst h1;rfl
 exact absurd e.symm (hp j i hj hi h1).1
def Cj(S:List Ty):Nat->Kd->Vl->Bool
 |0,_,_=>false
 |d+1,k,v=>
  if v.what=91 then v.kids.all (Cj S d k.part)
  else if v.what=63 then decide (k.part.signs.head?≠some 63) && v.kids.all (Cj S d k.part)
  else if v.what=85 then v.kids.all (Cj S d (Fl S k v.tag))
  else if v.what=82 then v.kids.all fun y=>Cj S d (Fl S k y.tag) (M2 y)
  else true
def V7:List UInt8:=[110,117,108,108]
def byN(S:List Ty)(k:Kd)(ks:List Vl):List Vl:=Ex (fun y=>Ed S k y.tag) ks
def Gs(S:List Ty):Nat->Kd->Vl->List UInt8
 |0,_,_=>[]
 |d+1,k,v=>
  if v.what=91 then 91::(Ak 44 (v.kids.map (Gs S d k.part))++[93])
  else if v.what=63 then(match v.kids with|[]=>V7|x::_=>Gs S d k.part x)
  else if v.what=69 then 34::(Ed S k v.tag++[34])
  else if v.what=85 then 123::(Ed S k v.tag++58::(Gs S d (Fl S k v.tag) (M2 v)++[125]))
  else if v.what=82 then 123::(Ak 44 ((byN S k v.kids).map fun y=>Ed S k y.tag++58::Gs S d (Fl S k y.tag) (M2 y))++[125])
  else Az v
theorem Qc6{S:List Ty}(hS:∀t∈S,Dc t){k:Kd}{t:Ty}(ht:By S k.name=some t){fs:List (Fd × Vl)}(hf:∀p∈fs,Bg t.fields p.1.tag=some p.1)(hp:fs.Pairwise fun p q=>p.1.tag<q.1.tag):
  ∀a∈fs.map Dg,∀b∈fs.map Dg,Ed S k a.tag=Ed S k b.tag->a=b:=by
 intro a ha b hb e
 obtain⟨p,hp1,rfl⟩:=List.mem_map.1 ha
 obtain⟨q,hq1,rfl⟩:=List.mem_map.1 hb
 have e1:Ed S k p.1.tag=p.1.name:=Eu ht (hf p hp1)
 have e2:Ed S k q.1.tag=q.1.name:=Eu ht (hf q hq1)
 have e3:Ed S k p.1.tag=Ed S k q.1.tag:=e
 rw[e1,e2]at e3
 have e4:=Qgi (hS t (Bs ht).1).2.2.1 p.1 (Bk (hf p hp1)).2 q.1 (Bk (hf q hq1)).2 e3
 obtain⟨i,hi,rfl⟩:=List.getElem_of_mem hp1
 obtain⟨j,hj,rfl⟩:=List.getElem_of_mem hq1
 rw[List.pairwise_iff_getElem]at hp
 have:i=j:=by
  rcases Nat.lt_trichotomy i j with h1|h1|h1
  ·have:=hp i j hi hj h1;rw[e4]at this;omega
  ·exact h1
  have:=hp j i hj hi h1;rw[e4]at this;omega
 subst this
 rfl
def vlB(o:Option (List Ty × Kd))(x:List UInt8)(f:List Ty->Kd->Vl->Option (List UInt8)):Option (List UInt8):=match o with
 |some y=>(Jr y.1 y.2 x).bind (f y.1 y.2)
 |none=>none
theorem X7{S:List Ty}(hS:∀t∈S,Dc t){k:Kd}{t:Ty}(ht:By S k.name=some t){fs:List (Fd × Vl)}(hf:∀p∈fs,Bg t.fields p.1.tag=some p.1)(hp:fs.Pairwise fun p q=>p.1.tag<q.1.tag):fs.length<=8:=by
 have h8:=(hS t (Bs ht).1).2.2.2.1
 have:∀(l m:List Fd),l.Nodup->(∀x∈l,x∈m)->l.length<=m.length:=by
  intro l
  induction l with
  |nil=>simp
  |cons x l ih=>
   intro m hn hs
   have hx:=hs x (by simp)
   have:=ih (m.erase x) (List.nodup_cons.1 hn).2 (fun y hy=>(List.mem_erase_of_ne (by rintro rfl;exact(List.nodup_cons.1 hn).1 hy)).2 (hs y (by simp[hy])))
   rw[List.length_erase_of_mem hx]at this
   have:=List.length_pos_of_mem hx
   simp only[List.length_cons];omega
 have h0:=this (fs.map (·.1)) t.fields (by
  rw[List.Nodup,List.pairwise_map]
  exact hp.imp fun h e=>by rw[e]at h;omega) (fun x hx=>by
  obtain⟨p,hp,rfl⟩:=List.mem_map.1 hx
  exact(Bk (hf p hp)).2)
 rw[List.length_map]at h0
 omega
theorem Qhu(S:List Ty)(k:Kd)(ks:List Vl)(T:Vl->List UInt8):Ex (·.1) ((ks.map fun y=>Ed S k y.tag).zip (ks.map T))=(byN S k ks).map fun y=>(Ed S k y.tag,T y):=by
 rw[List.zip_map',byN]
 exact Qav (fun y=>Ed S k y.tag) (·.1) (fun y=>(Ed S k y.tag,T y)) (fun _=>rfl) ks
theorem Tryz.sizeBuilder:(prog.info? 125).map (·.size)=some 2:=by kernel_rfl
theorem Tryz.liesBuilder:liesAt prog prog.depth 125 (2 / prog.cellsOf 125) 0 125 1=true:=by kernel_rfl
theorem Tryz.cellsByte:prog.cellsOf 5=1:=by kernel_rfl
section
variable {P:Program}
end
theorem Fj(ls:List (List UInt8)):∀y∈Ae ls,y.oneCell'=true:=by
 intro y hy
 obtain⟨l,_,rfl⟩:=List.mem_map.1 hy
 rfl
theorem Fx(a b:List (List UInt8)):Ae (a++b)=Ae a++Ae b:=by simp[Ae]
section
attribute [local go_sem] Qja Qit Qib Qgw ByteArray.mk_append_mk
theorem Nr(n:Nat)(w:World)(hn:n<10):
  Calls prog 62 #[.int .i64 n] w fun e w'=>e=.returned (.string ⟨(Aw n).toArray⟩)/\Below w.heap.size w w':=by
 have Hfin:=Aa (D1 hn)
 have hcv:=fun W=>Qgf W w.heap.size 1 (Gj (48+n))
 rw[Fo (by omega)]at hcv
 go_enter func62,ntmps62
 go_wp2_with fail
 go_ret
 exact⟨by rw[Hfin.o];rfl,(As _ _).alloc (Ap _) _⟩
theorem Nd:∀(k n:Nat) (w:World),n<=k->n<=1000000000 ->
  Calls prog 62 #[.int .i64 n] w fun e w'=>e=.returned (.string ⟨(Aw n).toArray⟩)/\Below w.heap.size w w':=by
 intro k
 induction k with
 |zero=>intro n w hn h;exact Nr n w (by omega)
 |succ k ih=>
  intro n w hn h
  by_cases h10:n<10
  ·exact Nr n w h10
  have Hfin:=Aa (Mf h10)
  have Hs:=Aa (D1 (show n % 10<10 by omega))
  have Ih:=Aa (fun W=>ih (n / 10) W (by omega) (by omega))
  have hl:=Ds 8 (n / 10) (by have e:10 ^ (8+1)=1000000000:=rfl;omega)
  have e1:((n:Int) / 10)=((n / 10:Nat):Int):=by omega
  have e2:((n:Int) % 10)=((n % 10:Nat):Int):=by omega
  have E1:=Aa e1
  have E2:=Aa e2
  clear ih e1 e2
  go_enter func62,ntmps62
  go_wp2_with fail
  rw[E1.o]
  refine(Ih.o _).mono ?_
  rintro e w1 ⟨rfl,hb1⟩
  have Hb1:=Aa hb1
  clear hb1
  go_wp2_with fail
  rw[E2.o]
  refine(Nr (n % 10) w1 (by omega)).mono ?_
  rintro e w2 ⟨rfl,hb2⟩
  have Hb2:=Aa (Hb1.o.trans (hb2.mono Hb1.o.size))
  rw[Hs.o]
  clear hb2
  go_wp2_with fail
  go_ret
  exact⟨by rw[Hfin.o];rfl,Hb2.o⟩
def Qia(b:List UInt8):Prop:=b=[110]\/b=[116]\/b=[102]\/b=[64]
theorem Qdi{s:List UInt8}:Bv [110] s=(match Cf s with|some n=>decide (0<n)|none=>false):=rfl
theorem Qd8{s:List UInt8}:Bv [116] s=(decide (2<s.length) && decide (s.head?=some 39) && decide (s.getLast?=some 39) && Dh (s.drop 1).dropLast):=rfl
theorem Qc4{s:List UInt8}:Bv [102] s=decide (s=[121,101,115]):=rfl
theorem Qbx(s:List UInt8)(w:World)(hs:s.length<=4000000):
  Calls prog 155 #[.string ⟨#[110]⟩,.string ⟨s.toArray⟩] w fun e w'=>e=.returned (.bool (Bv [110] s))/\Below w.heap.size w w':=by
 have Hp:=Aa (fun W=>Gh s 999999 W (by omega) (by omega))
 have Hf:=Aa (Qdi (s:=s))
 cases hd:Cf s with
 |none=>
  rw[hd]at Hf
  have Hv:=Aa (Po (m:=999999) hd)
  clear hd
  go_enter func155,ntmps155
  go_wp2_with fail
  refine(Hp.o _).mono ?_
  rintro e w' ⟨rfl,rfl⟩
  rw[Hv.o]
  go_wp2_with fail
  go_ret
  exact⟨D4 (Ci Hf.o.symm),As _ _⟩
 |some n=>
  rw[hd]at Hf
  have h9:=(Bx.1 hd).1
  have Hv:=Aa (Sn (m:=999999) hd)
  have t1:decide (n<=999999)=true:=by simp;exact h9
  clear hd
  rcases Nat.lt_or_ge 0 n with hn|hn
  all_goals
   go_enter func155,ntmps155
   go_wp2_with fail
   refine(Hp.o _).mono ?_
   rintro e w' ⟨rfl,rfl⟩
   rw[Hv.o,t1]
   go_wp2_with fail
   go_ret
   exact⟨D4 (Ci (by rw[Hf.o];first|done|(simp;try omega))),As _ _⟩
theorem Qa9(s:List UInt8)(w:World)(hs:s.length<=4000000):
  Calls prog 155 #[.string ⟨#[102]⟩,.string ⟨s.toArray⟩] w fun e w'=>e=.returned (.bool (Bv [102] s))/\Below w.heap.size w w':=by
 have Hf:=Aa (Qc4 (s:=s))
 by_cases hy:s=[121,101,115]
 ·subst hy
  go_enter func155,ntmps155
  go_wp2_with fail
  go_ret
  exact⟨D4 (Ci (by rw[Hf.o];simp)),As _ _⟩
 have Hy:=Aa (show decide (s=[121,101,115])=false by simpa using hy)
 have ty:(s == [121,101,115])=false:=by simpa using hy
 clear hy
 go_enter func155,ntmps155
 go_wp2_with fail
 go_ret
 exact⟨D4 (Ci (by rw[Hf.o,Hy.o])),As _ _⟩
theorem Zt(s:List UInt8)(w:World):
  Calls prog 155 #[.string ⟨#[64]⟩,.string ⟨s.toArray⟩] w fun e w'=>e=.returned (.bool (Bv [64] s))/\Below w.heap.size w w':=by
 go_enter func155,ntmps155
 go_wp2_with fail
 go_ret
 exact⟨rfl,As _ _⟩
theorem Qbu(s:List UInt8)(w:World)(hs:s.length<=4000000):
  Calls prog 155 #[.string ⟨#[116]⟩,.string ⟨s.toArray⟩] w fun e w'=>e=.returned (.bool (Bv [116] s))/\Below w.heap.size w w':=by
 have hf:=Qd8 (s:=s)
 rcases Nat.lt_or_ge 2 s.length with h2|h2
 ·obtain⟨c,u,d,rfl⟩:∃c u d,s=c::(u++[d]):=by
   cases s with
   |nil=>simp at h2
   |cons c t=>
    rcases Eh t with rfl|⟨u,d,rfl⟩
    ·simp at h2
    exact⟨c,u,d,rfl⟩
  have hl:(c::(u++[d])).getLast?=some d:=by
   rw[show c::(u++[d])=(c::u)++[d]from rfl,List.getLast?_append];rfl
  have hu:((c::(u++[d])).drop 1).dropLast=u:=by simp
  rw[hl,hu]at hf
  have t0:decide (2<(c::(u++[d])).length)=true:=by simpa using h2
  rw[t0]at hf
  simp only[List.head?_cons,Option.some.injEq,Bool.true_and]at hf
  have Hf:=Aa hf
  have hc:=c.toNat_lt
  have hd:=d.toNat_lt
  have hgd:∀h,(c::(u++[d]))[u.length+1]'h=d:=by intro h;simp
  have hsl:(List.take u.length (u++[d]))=u:=by simp
  have hul:2<=u.length+1:=by simp at h2;omega
  have hul2:u.length<=4000000:=by simp at hs;omega
  clear hf hl hu h2 hs t0
  by_cases hc39:c=39
  ·have t1:((c.toNat:Int) == 39)=true:=Bl hc39
   have Hc:=Aa (show decide (c=39)=true by simpa using hc39)
   clear hc39
   by_cases hd39:d=39
   ·have t2:((d.toNat:Int) == 39)=true:=Bl hd39
    have Hd:=Aa (show decide (d=39)=true by simpa using hd39)
    clear hd39
    go_enter func155,ntmps155
    go_wp2_with fail
    refine(Qbt u _ (by omega)).mono ?_
    rintro e w' ⟨rfl,hb⟩
    go_wp2_with fail
    go_ret
    exact⟨D4 (Ci (by rw[Hf.o,Hc.o,Hd.o];simp)),hb⟩
   have t2:((d.toNat:Int) == 39)=false:=An hd39
   have Hd:=Aa (show decide (d=39)=false by simpa using hd39)
   clear hd39
   go_enter func155,ntmps155
   go_wp2_with fail
   go_ret
   exact⟨D4 (Ci (by rw[Hf.o,Hd.o];simp)),As _ _⟩
  have t1:((c.toNat:Int) == 39)=false:=An hc39
  have Hc:=Aa (show decide (c=39)=false by simpa using hc39)
  clear hc39
  go_enter func155,ntmps155
  go_wp2_with fail
  go_ret
  exact⟨D4 (Ci (by rw[Hf.o,Hc.o];simp)),As _ _⟩
 have e0:decide (2<s.length)=false:=by simp;omega
 have Hf:=Aa (show Bv [116] s=false by rw[hf,e0];simp)
 clear e0
 have t0:decide (2<(s.length:Int))=false:=by simp;omega
 clear hf
 go_enter func155,ntmps155
 go_wp2_with fail
 go_ret
 exact⟨D4 (Ci Hf.o.symm),As _ _⟩
theorem Xz(b s:List UInt8)(w:World)(hb:Qia b)(hs:s.length<=4000000):
  Calls prog 155 #[.string ⟨b.toArray⟩,.string ⟨s.toArray⟩] w fun e w'=>e=.returned (.bool (Bv b s))/\Below w.heap.size w w':=by
 rcases hb with rfl|rfl|rfl|rfl
 ·exact Qbx s w hs
 ·exact Qbu s w hs
 ·exact Qa9 s w hs
 exact Zt s w
end
section
attribute [local go_sem] Qit Qib Qgw
theorem Rz(s p:List UInt8):(s.take p.length == p)=p.isPrefixOf s:=by
 rw[Bool.eq_iff_iff,beq_iff_eq,List.isPrefixOf_iff_prefix,List.prefix_iff_eq_take];exact eq_comm
theorem Sd(s p:List UInt8)(h:¬p.length<=s.length):p.isPrefixOf s=false:=by
 rw[Bool.eq_false_iff,Ne,List.isPrefixOf_iff_prefix];intro hp;exact h hp.length_le
theorem Tm(s p:List UInt8)(w:World):
  Calls prog 126 #[.string ⟨s.toArray⟩,.string ⟨p.toArray⟩] w fun e w'=>e=.returned (.bool (p.isPrefixOf s))/\w=w':=by
 by_cases h:p.length<=s.length
 ·have HS:=Aa (Rz s p)
  go_enter func126,ntmps126
  go_wp2
  go_ret
  exact⟨by rw[<-HS.o];rfl,rfl⟩
 have HS:=Aa (Sd s p h)
 go_enter func126,ntmps126
 go_wp2
 go_ret
 exact⟨by rw[HS.o];rfl,rfl⟩
section
variable {P:Program}
theorem G9(w:World)(base:Nat)(t ty e:TypeId)(i:TypeInfo)(z:Value)(size bytes:Nat)(ht:P.underlying t=some (.slice e))(hi:P.info? e=some i)(hz:i.zero=some z)
  (hsize:i.size=size) (hby:i.bytes=bytes) (hzs:z.cells.size=size) (hsz:0<size)
  (v:Value) (n:Nat) (xs:List Value) (hown:w.ownsRow base e size v n xs)
  (a:Addr) (m c:Nat) (news:List Value) (hl:news.length=m*size) (hnews:∀j u,news[j]?=some u->w.cell? (a.add j)=some u) (h1:∀u∈news,u.oneCell'=true)
  (hm:0<m) (h63:n+m<=maxLen) (hbytes:(n+m)*bytes<=140737488355328) (hbase:base<=w.heap.size):
  ∃v' w',(Builtin.append_ #[t,t] ty #[v,.slice (some a) m c]).run P w=.ok v' w'/\w'.ownsRow base e size v' (n+m) (xs++news)/\w.grownBy w' v.ownBlock /\
   (v'.ownBlock=v.ownBlock\/∃k,v'.ownBlock=some k/\w.heap.size<=k):=by
 obtain⟨v',w',hr,h2,h3,_⟩:=run_append_own (P:=P) w base t ty e i z size bytes ht hi hz hsize hby hzs hsz v n xs hown a m c news hl hnews h1 h63 hbytes hbase
 refine⟨v',w',hr,h2,h3,?_⟩
 subst hsize
 subst hby
 have h63':n+m<=9223372036854775807:=by simp only[maxLen]at h63;omega
 rcases hown.2 with⟨rfl,rfl⟩|⟨g,cap,cur,rfl,hbg,hg,hnc,hcm,hcs,htake⟩
 ·have hq:=run_append_nil (P:=P) w t ty e i z ht hi hz a m c news hl hnews hm (by omega) (by have hb:=hbytes;simp only[Nat.zero_add]at hb;omega)
  rw[hq]at hr
  injection hr with e1 _
  subst e1
  exact .inr ⟨_,rfl,Ap _⟩
 by_cases hroom:n+m<=cap
 ·have hfit:n*i.size+news.length<=cur.size:=by rw[hl,hcs,<-Nat.add_mul];exact Nat.mul_le_mul_right _ hroom
  have hq:=run_append_room (P:=P) w t ty e i ht hi g n cap cur hg a m c news hl hnews h1 hroom hfit
  rw[hq]at hr
  injection hr with e1 _
  subst e1
  exact .inl rfl
 have holds:∀j u,xs[j]?=some u->w.cell? ((⟨g,0,none⟩:Addr).add j)=some u:=hown.cells (g:=g) rfl
 have hq:=run_append_grow (P:=P) w t ty e i z ht hi hz ⟨g,0,none⟩ n cap xs hown.1 holds a m c news hl hnews (by omega) (by omega) (growslice_fits (by omega) hbytes)
 rw[hq]at hr
 injection hr with e1 _
 subst e1
 exact .inr ⟨_,rfl,Ap _⟩
theorem Jq(w:World){ops:Array Oper}{rest:List Oper}{o:Oper}{a:Act}{Q:Exit->Act->World->Prop}(hgd:o.guard=none)(s x:Operand)(t:TypeId)
  (ho:o.op=.call {callee:=.builtin .append,args:=#[s,x],argTypes:=#[t,t]})
  (base:Nat) (e:TypeId) (z:Value) (bytes:Nat) (ht:P.underlying t=some (.slice e)) (hinfo:(P.info? e).map (fun i=>(i.zero,i.size,i.bytes))=some (some z,1,bytes))
  (hzs:z.cells.size=1) (W:World) (u:Value) (hw:w=W.alloc (.cells #[u] e)) (hu:u.oneCell'=true) (v:Value) (n:Nat) (xs:List Value) (hs:a.eval s=v) (hx:a.eval x=.slice (some ⟨W.heap.size,0,none⟩) 1 1)
  (hown:W.ownsRow base e 1 v n xs)
  (h63:n+1<=maxLen) (hbytes:(n+1)*bytes<=140737488355328) (hbase:base<=W.heap.size)
  (h:∀v' w',w'.ownsRow base e 1 v' (n+1) (xs++[u])->W.grownBy w' v.ownBlock->(v'.ownBlock=v.ownBlock\/∃k,v'.ownBlock=some k/\W.heap.size<=k)->wpList P ops Q rest (a.put o.dst v') w'):wpList P ops Q (o::rest) a w:=by
 subst hw
 obtain⟨i0,hi,hz0,hz1,hz2⟩:=info_parts hinfo
 obtain⟨v',w',hrun,r1,r2,r3⟩:=G9 (P:=P) (W.alloc (.cells #[u] e)) base t o.type e i0 z 1 bytes ht hi hz0 hz1 hz2 hzs (by decide) v n xs (hown.alloc _) ⟨W.heap.size,0,none⟩ 1 1 [u] rfl (by
  intro j y hj
  match j,hj with
  |0,hj=>simp at hj;subst hj;simp[Addr.add,World.cell?_alloc_new]) (by intro y hy;simp at hy;subst hy;exact hu) (by decide) h63 hbytes (by simp;omega)
 refine wpList_plain hgd fun K' hK'=>?_
 unfold Oper.wp
 simp[execOp,ho,resolve,invoke,builtin,hs,hx,hrun,Result.andThen]
 refine hK' _ _ (h v' w' r1 ?_ ?_)
 ·exact⟨r2.os,r2.tape,r2.output,Nat.le_trans (by simp) r2.size,fun k hk hne=>(r2.block k (by simp;omega) hne).trans (heap_alloc_old W _ hk)⟩
 rcases r3 with r3|⟨k,r3,r4⟩
 ·exact .inl r3
 exact .inr ⟨k,r3,by simp at r4;omega⟩
end
end
theorem Mc(w:World)(T:TypeId)(base:Nat)(h:base<=w.heap.size):(w.alloc (.cells #[] T)).ownsRow base T 1 (.slice (some ⟨w.heap.size,0,none⟩) 0 0) 0 []:=
 ⟨rfl,.inr ⟨w.heap.size,0,#[],rfl,h,by have:=heap_alloc_new w (.cells #[] T);simpa using this,Ap _,by decide,rfl,rfl⟩⟩
theorem Vx{w:World}{base n m c:Nat}{A:Option Addr}{e:TypeId}{zs:List Value}(h:w.ownsRow base e 1 (.slice A m c) n zs):n<=c:=by
 rcases h.2 with⟨e,h0⟩|⟨g,cap,cur,e,_,_,hnc,_⟩
 ·omega
 injection e with _ _ e2;subst e2;exact hnc
section
variable {P:Program}
theorem Ge(W:World){o:Oper}{a:Act}{K:Act->World->Prop}{Q:Exit->Act->World->Prop}(s x:Operand)(t:TypeId)
  (ho:o.op=.call {callee:=.builtin .append,args:=#[s,x],argTypes:=#[t,t]})
  (base:Nat) (e:TypeId) (z:Value) (bytes:Nat) (ht:P.underlying t=some (.slice e)) (hinfo:(P.info? e).map (fun i=>(i.zero,i.size,i.bytes))=some (some z,1,bytes))
  (hzs:z.cells.size=1) (g n cap:Nat) (xs:List Value) (hs:a.eval s=.slice (some ⟨g,0,none⟩) n cap) (A:Option Addr) (m c:Nat) (us:List Value) (hx:a.eval x=.slice A m c) (hrow:Bh W A m us) (hu:∀u∈us,u.oneCell'=true)
  (hown:W.ownsRow base e 1 (.slice (some ⟨g,0,none⟩) n cap) n xs) (h63:n+m<=maxLen) (hbytes:(n+m)*bytes<=140737488355328) (hbase:base<=W.heap.size)
  (h:∀g' cap' w',w'.ownsRow base e 1 (.slice (some ⟨g',0,none⟩) (n+m) cap') (n+m) (xs++us)->W.grownBy w' (some g)->(g'=g\/W.heap.size<=g')->K (a.put o.dst (.slice (some ⟨g',0,none⟩) (n+m) cap')) w'):Oper.wp P o a W K Q:=by
 obtain⟨i0,hi,hz0,hz1,hz2⟩:=info_parts hinfo
 have fin:∀v' w',(Builtin.append_ #[t,t] o.type #[.slice (some ⟨g,0,none⟩) n cap,.slice A m c]).run P W=.ok v' w'->w'.ownsRow base e 1 v' (n+m) (xs++us)->W.grownBy w' (some g)->(v'.ownBlock=some g\/∃k,v'.ownBlock=some k/\W.heap.size<=k)->Oper.wp P o a W K Q:=by
  intro v' w' hrun r1 r2 r3
  have hv:∃g' cap',v'=.slice (some ⟨g',0,none⟩) (n+m) cap'/\(g'=g\/W.heap.size<=g'):=by
   rcases r1.2 with⟨rfl,_⟩|⟨g',cap',cur,rfl,_⟩
   ·rcases r3 with r3|⟨k,r3,_⟩<;>cases r3
   refine⟨g',cap',rfl,?_⟩
   rcases r3 with r3|⟨k,r3,r4⟩
   ·injection r3 with r3;exact .inl r3
   injection r3 with r3;subst r3;exact .inr r4
  obtain⟨g',cap',rfl,hg'⟩:=hv
  unfold Oper.wp
  simp[execOp,ho,resolve,invoke,builtin,hs,hx,hrun,Result.andThen]
  exact h g' cap' w' r1 r2 hg'
 by_cases hm:m=0
 ·subst hm
  have e1:us=[]:=List.eq_nil_of_length_eq_zero hrow.1
  subst e1
  cases A with
  |none=>
   rcases hown.2 with⟨h0,_⟩|⟨g',cap',cur,hv,_,_,hnc,_⟩
   ·cases h0
   injection hv with _ _ hv
   subst hv
   have hrun:(Builtin.append_ #[t,t] o.type #[.slice (some ⟨g,0,none⟩) n cap,.slice none 0 c]).run P W=.ok (.slice (some ⟨g,0,none⟩) n cap) W:=by
    simp[Builtin.append_,run_underlying ht,sizeOf,typeInfo,hi,Builtin.lenOf,Builtin.firstCells,hnc,storeCells]
   exact fin _ W hrun (by simpa using hown) (World.grownBy.refl _ _) (.inl rfl)
  |some p=>
   rcases hown.2 with⟨h0,_⟩|⟨g',cap',cur,hv,_,_,hnc,_⟩
   ·cases h0
   injection hv with _ _ hv
   subst hv
   obtain⟨w',hrun,r1,r2⟩:=run_append_own_spare (P:=P) W base t o.type e i0 1 ht hi hz1 g n cap xs hown p 0 c [] rfl (by simp) (by simp) (by omega)
   exact fin _ w' hrun r1 r2 (.inl rfl)
 obtain⟨b,off,rfl,hb,hc⟩:=hrow.2.2 (by omega)
 obtain⟨v',w',hrun,r1,r2,r3⟩:=G9 (P:=P) W base t o.type e i0 z 1 bytes ht hi hz0 hz1 hz2 hzs (by decide) _ n xs hown ⟨b,off,none⟩ m c us (by rw[hrow.1,Nat.mul_one]) (fun j u hj=>by rw[Addr.add_lit];exact hc j u hj) hu (by omega) h63 hbytes hbase
 exact fin v' w' hrun r1 r2 r3
end
section
attribute [local go_sem] Qja Qit Qib Qgw ByteArray.mk_append_mk
theorem Xd(n:Nat)(w:World)(hn:n<10):
  Calls prog 88 #[.int .i64 n] w fun e w'=>e=.returned (.string ⟨(Aw n).toArray⟩)/\Below w.heap.size w w':=by
 have Hfin:=Aa (D1 hn)
 have hcv:=fun W=>Qgf W w.heap.size 1 (Gj (48+n))
 rw[Fo (by omega)]at hcv
 go_enter func88,ntmps88
 go_wp2_with fail
 go_ret
 exact⟨by rw[Hfin.o];rfl,(As _ _).alloc (Ap _) _⟩
theorem Qbv(n:Nat)(h10:¬n<10)(hn:n<=1000000000)(ih:∀W,Calls prog 88 #[.int .i64 ((n / 10:Nat):Int)] W fun e w'=>e=.returned (.string ⟨(Aw (n / 10)).toArray⟩)/\Below W.heap.size W w')(w:World):
  Calls prog 88 #[.int .i64 n] w fun e w'=>e=.returned (.string ⟨(Aw n).toArray⟩)/\Below w.heap.size w w':=by
 have Hfin:=Aa (Mf h10)
 have ih':=Aa ih
 have hl:=Ds 8 (n / 10) (by have e:10 ^ (8+1)=1000000000:=rfl;omega)
 clear ih
 have hcv:=fun W g=>Qgf W g 1 (Gj (48+n % 10))
 have h1:IntKind.u8.wrap (IntKind.i64.wrap (48+(n:Int).tmod 10))=((Gj (48+n % 10)).toNat:Int):=by
  rw[Fo (by omega),Int.tmod_eq_emod_of_nonneg (by omega),IntWalk.i64_in _ (by omega),IntWalk.u8_in _ (by omega)];omega
 have h2:IntKind.i64.wrap ((n:Int) / 10)=((n / 10:Nat):Int):=by rw[IntWalk.i64_in _ (by omega)];omega
 go_enter func88,ntmps88
 go_wp2_with fail
 go_region_with (go_at_call 88;refine(ih'.out _).mono ?_;rintro e w' ⟨rfl,hb⟩;obtain⟨hc,hf,hz⟩:=Bw hb)
 all_goals
  go_wp2
  go_ret
  refine⟨by rw[Hfin.o];rfl,?_⟩
  have hsz:=hb.size
  repeat (first|exact As _ _|refine Below.drew ?_|refine Below.alloc ?_ (by simp at hsz ⊢;first|omega|done) _|refine Below.trans ?_ (hb.mono (by simp)))
theorem Ja:∀(k n:Nat) (w:World),n<=k->n<=1000000000 ->
  Calls prog 88 #[.int .i64 n] w fun e w'=>e=.returned (.string ⟨(Aw n).toArray⟩)/\Below w.heap.size w w':=by
 intro k
 induction k with
 |zero=>intro n w hn h;exact Xd n w (by omega)
 |succ k ih=>
  intro n w hn h
  by_cases h10:n<10
  ·exact Xd n w h10
  exact Qbv n h10 h (fun W=>ih (n / 10) W (by omega) (by omega)) w
end
end Go.Proofs.YtkigmebejmmikaaGreatDoor
