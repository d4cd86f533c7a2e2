import PyProof.Rows.All
import Wide.All
import OpenK.AllK
import Wide.FinOn
import PySem.Challenge.RW_uf060003_09
set_option linter.all false
set_option Elab.async false
set_option compiler.extract_closed false
set_option maxRecDepth 100000
set_option maxHeartbeats 8000000
set_option genInjectivity false
set_option genSizeOf false
set_option genSizeOfSpec false
set_option bootstrap.genMatcherCode false
universe u
namespace Mine.Lake
noncomputable section
local macro_rules
 | `(∅) => `(by first | kernel_rfl | decide | decide +kernel)
theorem bz {α:Type} (t:α) {P:Prop} (h:∀x,t=x->P):P:=h t rfl
structure A3 (p0 p1 p2:Prop):Prop where
 h0:p0
 h1:p1
 h2:p2
inductive A4 (p0 p1 p2 p3:Prop):Prop
 | mk (h0:p0) (h1:p1) (h2:p2) (h3:p3)
inductive A5 (p0 p1 p2 p3 p4:Prop):Prop
 | mk (h0:p0) (h1:p1) (h2:p2) (h3:p3) (h4:p4)
inductive A6 (p0 p1 p2 p3 p4 p5:Prop):Prop
 | mk (h0:p0) (h1:p1) (h2:p2) (h3:p3) (h4:p4) (h5:p5)
inductive A7 (p0 p1 p2 p3 p4 p5 p6:Prop):Prop
 | mk (h0:p0) (h1:p1) (h2:p2) (h3:p3) (h4:p4) (h5:p5) (h6:p6)
inductive A8 (p0 p1 p2 p3 p4 p5 p6 p7:Prop):Prop
 | mk (h0:p0) (h1:p1) (h2:p2) (h3:p3) (h4:p4) (h5:p5) (h6:p6) (h7:p7)
inductive Ke (p0 p1 p2 p3 p4 p5 p6 p7 p8 p9 p10:Prop):Prop
 | mk (h0:p0) (h1:p1) (h2:p2) (h3:p3) (h4:p4) (h5:p5) (h6:p6) (h7:p7) (h8:p8) (h9:p9) (h10:p10)
abbrev aaa:=@List.getElem?_eq_some_iff
abbrev aab:=@Nat.sub_add_cancel
abbrev aac:=@List.length_append
abbrev aad:=@List.length_map
abbrev aae:=@List.append_assoc
abbrev aaf:=@List.mem_map
abbrev aag:=@Nat.le_antisymm
abbrev aah:=@Int.toNat_of_nonneg
abbrev aai:=@List.mem_cons
abbrev aaj:=@List.mem_singleton
abbrev aak:=@PySem.Heap.get?_push_of_some
abbrev aal:=@List.getElem?_eq_getElem
abbrev aam:=@List.prefix_refl
abbrev aan:=@List.pairwise_append
abbrev aao:=@Nat.le_trans
abbrev aap:=@List.mem_append
abbrev aaq:=@List.map_cons
abbrev aar:=@List.getElem?_append_right
abbrev aas:=@List.length_cons
abbrev aat:=@Nat.lt_or_gt_of_ne
abbrev aau:=@List.mem_append_right
abbrev aav:=@List.prefix_append
abbrev aaw:=@List.getElem?_append_left
abbrev aax:=@List.mem_reverse
abbrev aay:=@List.find?_cons_of_neg
abbrev aaz:=@List.mem_filter
abbrev aaA:=@List.getElem?_set_self
abbrev aaB:=@Array.getElem?_toList
abbrev aaC:=@Nat.add_sub_cancel_left
abbrev aaD:=@List.mem_append_left
abbrev aaE:=@List.mem_of_getElem?
abbrev aaF:=@Bool.false_ne_true
abbrev aaG:=@List.filter_cons_of_neg
abbrev aaH:=@PySem.Heap.get?_none_of_le
abbrev aaI:=@List.pairwise_cons
abbrev aaJ:=@List.find?_cons_of_pos
abbrev aaK:=@Nat.le_refl
abbrev aaL:=@List.filter_cons_of_pos
abbrev aaM:=@PySem.Heap.get?_push_size
abbrev aaN:=@Bool.and_eq_true_iff
abbrev aaO:=@List.getElem?_set_ne
abbrev aaP:=@List.pairwise_map
abbrev aaQ:=@Nat.le_add_right
abbrev aaR:=@List.size_toArray
abbrev aaS:=@List.take_append_drop
abbrev aaT:=@Option.isSome_iff_exists
abbrev aaU:=@Int.le_antisymm
abbrev aaV:=@List.map_map
abbrev aaW:=@List.flatMap_cons
abbrev aaX:=@Int.lt_of_lt_of_le
abbrev aaY:=@Int.self_le_toNat
abbrev aaZ:=@List.map_congr_left
abbrev aa0:=@Nat.sub_eq_zero_of_le
abbrev aa1:=@Nat.zero_add
abbrev aa2:=@List.length_singleton
abbrev aa3:=@List.mem_of_find?_eq_some
abbrev aa4:=@List.cons_append
abbrev aa5:=@Array.length_toList
abbrev aa6:=@Array.toList_append
abbrev aa7:=@List.length_reverse
abbrev aa8:=@Int.le_trans
abbrev aa9:=@Nat.lt_of_lt_of_le
abbrev aba:=@Nat.le_of_ble_eq_true
abbrev abb:=@List.pairwise_singleton
abbrev abc:=@List.length_take
abbrev abd:=@List.nodup_cons
abbrev abe:=@Option.bind_some
abbrev abf:=@List.getElem?_map
inductive Tm where
 | v (i:Nat)
 | n (k:Nat)
 | a (x y:Tm)
 | m (k:Nat) (x:Tm)
 | s (x y:Tm)
 | c (x:Tm)
 | g (x:Tm)
@[reducible] noncomputable def bI {α:Sort u} (b:Bool) (x y:α):α:=Bool.rec y x b
@[reducible] noncomputable def ixA {α:Type} (z:α):List α->Nat->α
 | [],_=>z
 | x::_,0=>x
 | _::t,i+1=>ixA z t i
@[reducible] noncomputable def Tm.N (A:List Nat):Tm->Nat
 | .v i=>ixA 0 A i
 | .n k=>k
 | .a x y=>x.N A+y.N A
 | .m k x=>k*x.N A
 | .s _ _=>0
 | .c _=>0
 | .g _=>0
@[reducible] noncomputable def Tm.I (A:List Nat) (B:List Int):Tm->Int
 | .v i=>ixA 0 B i
 | .n k=>Int.ofNat k
 | .a x y=>x.I A B+y.I A B
 | .m k x=>Int.ofNat k*x.I A B
 | .s x y=>x.I A B-y.I A B
 | .c x=>Nat.cast (x.N A)
 | .g x => -x.I A B
noncomputable def Ez:List Int->List Int->List Int
 | [],q=>q
 | p,[]=>p
 | a::p,b::q=>(a+b)::Ez p q
noncomputable def HZ:Nat->List Int
 | 0=>[1]
 | i+1=>0::HZ i
noncomputable def ti:List Int->List Int->Int
 | x::A,c::p=>c*x+ti A p
 | _,_=>0
theorem pH (A:List Int):ti A []=0:=by cases A<;>rfl
theorem HH (a b c d:Int):a+b+(c+d)=a+c+(b+d):=by rw [Int.add_assoc,Int.add_assoc,Int.add_left_comm b]
theorem xE:∀(A p q:List Int),ti A (Ez p q)=ti A p+ti A q
 | [],p,q=>rfl
 | x::A,[],q=>(Int.zero_add _).symm
 | x::A,a::p,[]=>(Int.add_zero _).symm
 | x::A,a::p,b::q=>by
  show (a+b)*x+ti A (Ez p q)=(a*x+ti A p)+(b*x+ti A q)
  rw [xE A p q,Int.add_mul];exact HH _ _ _ _
theorem AJ (k:Int):∀(A p:List Int),ti A (p.map (k * ·))=k*ti A p
 | [],p=>(Int.mul_zero k).symm
 | x::A,[]=>(Int.mul_zero k).symm
 | x::A,a::p=>by
  show k*a*x+ti A (p.map (k * ·))=k*(a*x+ti A p)
  rw [AJ k A p,Int.mul_add,Int.mul_assoc]
theorem AK:∀(A:List Int) (i:Nat),ti A (HZ i)=ixA 0 A i
 | [],0=>rfl
 | [],_+1=>rfl
 | x::A,0=>by show 1*x+ti A []=x;rw [pH,Int.one_mul,Int.add_zero]
 | x::A,i+1=>by show 0*x+ti A (HZ i)=ixA 0 A i;rw [AK A i,Int.zero_mul,Int.zero_add]
theorem BV:∀(A:List Nat) (i:Nat),ixA 0 (A.map Nat.cast) i=((ixA 0 A i:Nat):Int)
 | [],_=>rfl
 | _::_,0=>rfl
 | _::A,i+1=>BV A i
structure Fm where
 k:Int
 p:List Int
 q:List Int
noncomputable def Fm.e (A:List Nat) (B:List Int) (f:Fm):Int:=f.k+ti (A.map Nat.cast) f.p+ti B f.q
noncomputable def Fm.add (f g:Fm):Fm:=⟨f.k+g.k,Ez f.p g.p,Ez f.q g.q⟩
noncomputable def Fm.sc (c:Int) (f:Fm):Fm:=⟨c*f.k,f.p.map (c * ·),f.q.map (c * ·)⟩
section
variable (A:List Nat) (B:List Int)
theorem Fm.e_add (f g:Fm):(f.add g).e A B=f.e A B+g.e A B:=by
 unfold Fm.e Fm.add;dsimp only;rw [xE,xE,HH f.k,HH]
theorem Fm.e_sc (c:Int) (f:Fm):(f.sc c).e A B=c*f.e A B:=by
 unfold Fm.e Fm.sc;dsimp only;rw [AJ,AJ,Int.mul_add,Int.mul_add]
theorem Fm.e_k (k:Int):(Fm.mk k [] []).e A B=k:=by unfold Fm.e;dsimp only;rw [pH,pH,Int.add_zero,Int.add_zero]
noncomputable def Tm.LN:Tm->Fm
 | .v i=>⟨0,HZ i,[]⟩
 | .n k=>⟨k,[],[]⟩
 | .a x y=>x.LN.add y.LN
 | .m k x=>x.LN.sc k
 | _=>⟨0,[],[]⟩
noncomputable def Tm.LI:Tm->Fm
 | .v i=>⟨0,[],HZ i⟩
 | .n k=>⟨k,[],[]⟩
 | .a x y=>x.LI.add y.LI
 | .m k x=>x.LI.sc k
 | .s x y=>x.LI.add (y.LI.sc (-1))
 | .c x=>x.LN
 | .g x=>x.LI.sc (-1)
theorem Tm.eN:∀t:Tm,t.LN.e A B=((t.N A:Nat):Int)
 | .v i=>by show 0+ti (A.map Nat.cast) (HZ i)+ti B []=_;rw [AK,pH,BV,Int.zero_add,Int.add_zero]
 | .n k=>Fm.e_k A B k
 | .a x y=>by show (x.LN.add y.LN).e A B=_;rw [Fm.e_add,Tm.eN x,Tm.eN y];rfl
 | .m k x=>by show (x.LN.sc k).e A B=_;rw [Fm.e_sc,Tm.eN x];rfl
 | .s _ _=>Fm.e_k A B 0
 | .c _=>Fm.e_k A B 0
 | .g _=>Fm.e_k A B 0
theorem Tm.eI:∀t:Tm,t.LI.e A B=t.I A B
 | .v i=>by show 0+ti (A.map Nat.cast) []+ti B (HZ i)=_;rw [AK,pH,Int.zero_add,Int.zero_add]
 | .n k=>Fm.e_k A B k
 | .a x y=>by show (x.LI.add y.LI).e A B=_;rw [Fm.e_add,Tm.eI x,Tm.eI y]
 | .m k x=>by show (x.LI.sc k).e A B=_;rw [Fm.e_sc,Tm.eI x];rfl
 | .s x y=>by show (x.LI.add (y.LI.sc (-1))).e A B=_;rw [Fm.e_add,Fm.e_sc,Tm.eI x,Tm.eI y,Int.neg_mul,Int.one_mul];rfl
 | .c x=>Tm.eN A B x
 | .g x=>by show (x.LI.sc (-1)).e A B=_;rw [Fm.e_sc,Tm.eI x,Int.neg_mul,Int.one_mul]
@[reducible] noncomputable def opD {α:Type} [LE α] [LT α]:Nat->α->α->Prop
 | 0,x,y=>x<=y
 | 1,x,y=>x<y
 | 2,x,y=>x=y
 | 3,x,y=>x=y
 | 4,x,y=> ¬x<=y
 | 5,x,y=> ¬x<y
 | _,_,_=>False
noncomputable def Jz:Nat->Fm->Fm->Fm
 | 0,x,y=>y.add (x.sc (-1))
 | 1,x,y=>(y.add (x.sc (-1))).add ⟨-1,[],[]⟩
 | 2,x,y=>y.add (x.sc (-1))
 | 3,x,y=>x.add (y.sc (-1))
 | 4,x,y=>(x.add (y.sc (-1))).add ⟨-1,[],[]⟩
 | 5,x,y=>x.add (y.sc (-1))
 | _,_,_=>⟨0,[],[]⟩
theorem JA {a b:Int} (h:a<=b):0<=b + -1*a:=by rw [Int.neg_mul,Int.one_mul];exact Int.sub_nonneg.mpr h
theorem Kb {a b:Int} (h:a<b):0<=b + -1*a + -1:=by rw [Int.neg_mul,Int.one_mul];exact Int.sub_nonneg.mpr (Int.le_sub_left_of_add_le h)
theorem q9 (κ:Nat) (f g:Fm) (h:opD κ (f.e A B) (g.e A B)):0<=(Jz κ f g).e A B:=by
 match κ,h with
 | 0,h=>show 0<=(g.add (f.sc (-1))).e A B;rw [Fm.e_add,Fm.e_sc];exact JA h
 | 1,h=>show 0<=((g.add (f.sc (-1))).add _).e A B;rw [Fm.e_add,Fm.e_add,Fm.e_sc,Fm.e_k];exact Kb h
 | 2,h=>show 0<=(g.add (f.sc (-1))).e A B;rw [Fm.e_add,Fm.e_sc];exact JA (Int.le_of_eq h)
 | 3,h=>show 0<=(f.add (g.sc (-1))).e A B;rw [Fm.e_add,Fm.e_sc];exact JA (Int.le_of_eq (Eq.symm h))
 | 4,h=>show 0<=((f.add (g.sc (-1))).add _).e A B;rw [Fm.e_add,Fm.e_add,Fm.e_sc,Fm.e_k];exact Kb (Int.not_le.mp h)
 | 5,h=>show 0<=(f.add (g.sc (-1))).e A B;rw [Fm.e_add,Fm.e_sc];exact JA (Int.not_lt.mp h)
 | _+6,h=>exact h.elim
noncomputable def JT:Nat->Nat
 | 0=>4
 | 1=>5
 | 4=>0
 | 5=>1
 | _=>6
theorem EM (κ:Nat) (f g:Fm) (h:¬opD κ (f.e A B) (g.e A B)):0<=(Jz (JT κ) f g).e A B:=by
 match κ,h with
 | 0,h=>exact q9 A B 4 f g h
 | 1,h=>exact q9 A B 5 f g h
 | 2,_=>exact Int.le_of_eq (Fm.e_k A B 0).symm
 | 3,_=>exact Int.le_of_eq (Fm.e_k A B 0).symm
 | 4,h=>exact q9 A B 0 f g (Classical.not_not.mp h)
 | 5,h=>exact q9 A B 1 f g (Classical.not_not.mp h)
 | _+6,_=>exact Int.le_of_eq (Fm.e_k A B 0).symm
theorem zJ (κ:Nat) (x y:Nat):opD κ x y↔opD κ (x:Int) (y:Int):=by
 match κ with
 | 0=>exact Int.ofNat_le.symm
 | 1=>exact Int.ofNat_lt.symm
 | 2=>exact Int.ofNat_inj.symm
 | 3=>exact Int.ofNat_inj.symm
 | 4=>exact not_congr Int.ofNat_le.symm
 | 5=>exact not_congr Int.ofNat_lt.symm
 | _+6=>exact Iff.rfl
end
@[reducible] noncomputable def rdT:Nat->Nat->Tm×Nat
 | 0,c=>(.n 0,c)
 | f+1,c =>
  bI (Nat.ble (c%16) 7) (.v (c%16),c/16) (
  bI (Nat.beq (c%16) 8) (.v (8+c/16%16),c/256) (
  bI (Nat.beq (c%16) 9) (.n (c/16%16),c/256) (
  bI (Nat.beq (c%16) 10) (.n (c/16%16777216),c/268435456) (
  bI (Nat.beq (c%16) 11) (bI (Nat.beq (c/16%16) 0) (.n 16777216,c/256) (.g (rdT f (c/256)).1,(rdT f (c/256)).2)) (
  bI (Nat.beq (c%16) 12) (.a (rdT f (c/16)).1 (rdT f (rdT f (c/16)).2).1,(rdT f (rdT f (c/16)).2).2) (
  bI (Nat.beq (c%16) 13) (.m (c/16%256) (rdT f (c/4096)).1,(rdT f (c/4096)).2) (
  bI (Nat.beq (c%16) 14) (.s (rdT f (c/16)).1 (rdT f (rdT f (c/16)).2).1,(rdT f (rdT f (c/16)).2).2)
  (.c (rdT f (c/16)).1,(rdT f (c/16)).2))))))))
structure Cn where
 κ:Nat
 l:Tm
 r:Tm
@[reducible] noncomputable def Cn.d (A:List Nat) (B:List Int) (x:Cn):Prop :=
 bI (Nat.ble x.κ 7) (opD x.κ (x.l.N A) (x.r.N A)) (opD (x.κ-8) (x.l.I A B) (x.r.I A B))
noncomputable def Cn.f (x:Cn) (κ:Nat->Nat):Fm :=
 bI (Nat.ble x.κ 7) (Jz (κ x.κ) x.l.LN x.r.LN) (Jz (κ (x.κ-8)) x.l.LI x.r.LI)
@[reducible] noncomputable def rdC (c:Nat):Cn×Nat:=(⟨c%16,(rdT 20 (c/16)).1,(rdT 20 (rdT 20 (c/16)).2).1⟩,(rdT 20 (rdT 20 (c/16)).2).2)
@[reducible] noncomputable def Im (A:List Nat) (B:List Int):Nat->Nat->Prop
 | 0,c=>(rdC c).1.d A B
 | n+1,c=>(rdC (c/16)).1.d A B->Im A B n (rdC (c/16)).2
noncomputable def JZ (f:Fm):Bool:=decide (f.k<0)&&f.p.all (λc=>decide (c<=0))&&f.q.all (λc=>decide (c=0))
noncomputable def JR:Nat->Nat->Fm->Bool
 | 0,c,f=>JZ (f.add ((rdC c).1.f JT))
 | n+1,c,f=>JR n (rdC (c/16)).2 (f.add (((rdC (c/16)).1.f id).sc (Int.ofNat (c%16))))
section
variable (A:List Nat) (B:List Int)
theorem Cn.ok (x:Cn) (h:x.d A B):0<=(x.f id).e A B:=by
 unfold Cn.d at h;unfold Cn.f
 cases e:Nat.ble x.κ 7 with
 | true=>rw [e] at h;exact q9 A B _ _ _ (by rw [Tm.eN,Tm.eN];exact (zJ _ _ _).mp h)
 | false=>rw [e] at h;exact q9 A B _ _ _ (by rw [Tm.eI,Tm.eI];exact h)
theorem Cn.no (x:Cn) (h:¬x.d A B):0<=(x.f JT).e A B:=by
 unfold Cn.d at h;unfold Cn.f
 cases e:Nat.ble x.κ 7 with
 | true=>rw [e] at h;exact EM A B _ _ _ (by rw [Tm.eN,Tm.eN];exact λh'=>h ((zJ _ _ _).mpr h'))
 | false=>rw [e] at h;exact EM A B _ _ _ (by rw [Tm.eI,Tm.eI];exact h)
theorem BL:∀(A:List Nat) (p:List Int),p.all (λc=>decide (c<=0))=true->ti (A.map Nat.cast) p<=0
 | [],_,_=>Int.le_refl 0
 | _::_,[],_=>Int.le_refl 0
 | x::A,c::p,h=>by
  have h:=aaN.mp h
  exact Int.add_le_add (Int.mul_nonpos_of_nonpos_of_nonneg (of_decide_eq_true h.1) (Int.natCast_nonneg x)) (BL A p h.2)
theorem yW:∀(B p:List Int),p.all (λc=>decide (c=0))=true->ti B p=0
 | [],_,_=>rfl
 | _::_,[],_=>rfl
 | x::B,c::p,h=>by
  have h:=aaN.mp h
  show c*x+ti B p=0
  rw [of_decide_eq_true h.1,yW B p h.2,Int.zero_mul];rfl
theorem HA (f:Fm) (h:JZ f=true) (h2:0<=f.e A B):False:=by
 have h:=aaN.mp h
 have h1:=aaN.mp h.1
 haveI a:=of_decide_eq_true h1.1
 haveI b:=BL A _ h1.2
 haveI c:=yW B _ h.2
 unfold Fm.e at h2
 rw [c,Int.add_zero] at h2
 exact absurd h2 (Int.not_le.mpr (Int.lt_of_le_of_lt (Int.add_le_add_left b _) (by rw [Int.add_zero];exact a)))
theorem G7:∀(n c:Nat) (f:Fm),0<=f.e A B->JR n c f=true->Im A B n c
 | 0,c,f,h,h2=>Classical.byContradiction λg=>HA A B _ h2 (by rw [Fm.e_add];exact Int.add_nonneg h (Cn.no A B _ g))
 | n+1,c,f,h,h2=>λg=>G7 n _ _ (by rw [Fm.e_add,Fm.e_sc];exact Int.add_nonneg h (Int.mul_nonneg (Int.natCast_nonneg _) (Cn.ok A B _ g))) h2
end
theorem sA (a b:Nat):a<=a-b+b:=Nat.sub_le_iff_le_add.mp (aaK _)
noncomputable def Jx (c:Nat):Bool:=JR (c%16) (c/16) ⟨0,[],[]⟩
@[reducible] noncomputable def Imc (A:List Nat) (B:List Int) (c:Nat):Prop:=Im A B (c%16) (c/16)
theorem Ka (c:Nat) (A:List Nat) (B:List Int) (h:Jx c=true):Imc A B c:=G7 A B _ _ _ (Int.le_of_eq (Fm.e_k A B 0).symm) h
theorem aK (c:Nat) (A:List Nat) (h:Jx c=true):Imc A [] c:=Ka c A [] h
@[reducible] noncomputable def Imd (A:List Nat) (B:List Int) (c:Nat):Prop:=bI (Jx c) (Imc A B c) True
theorem fu (A:List Nat) (B:List Int) (c:Nat):Imd A B c:=by
 unfold Imd
 cases h:Jx c with
 | true=>exact Ka c A B h
 | false=>trivial
theorem b9 (c:Nat) {a:Nat}:Imd [a] [] c:=fu _ _ c
theorem cu (c:Nat) {a b:Nat}:Imd [a,b] [] c:=fu _ _ c
theorem lh (c:Nat) {a b d:Nat}:Imd [a,b,d] [] c:=fu _ _ c
theorem vF (c:Nat) {a b d e:Nat}:Imd [a,b,d,e] [] c:=fu _ _ c
theorem zI (c:Nat) {a b d e f:Nat}:Imd [a,b,d,e,f] [] c:=fu _ _ c
theorem bY (c:Nat) {x:Int}:Imd [] [x] c:=fu _ _ c
theorem pD (c:Nat) {x y:Int}:Imd [] [x,y] c:=fu _ _ c
theorem tZ (c:Nat) {x y z:Int}:Imd [] [x,y,z] c:=fu _ _ c
theorem AV (c:Nat) {x y z w:Int}:Imd [] [x,y,z,w] c:=fu _ _ c
theorem ge (c:Nat) {a:Nat} {x:Int}:Imd [a] [x] c:=fu _ _ c
theorem jF (c:Nat) {a b:Nat} {x:Int}:Imd [a,b] [x] c:=fu _ _ c
theorem Dg (c:Nat) {a:Nat} {x y:Int}:Imd [a] [x,y] c:=fu _ _ c
theorem bW {P:Prop} (h:∀X:Prop,(P->X)->X):P:=h P id
open PySem PySem.W PyProof.Rows
inductive V where
 | none:V
 | bool (b:Bool):V
 | int (i:Int):V
 | str (s:String):V
 | tup (xs:List V):V
 | ref (i:Nat):V
 | inst (c:String) (i:Nat):V
 | exc (c:String):V
 | scr:V
inductive O where
 | list (xs:List V)
 | dict (es:List (Int×V))
 | flds (fs:List (String×V))
abbrev Hp:=List O
abbrev bp:=String->Option V
noncomputable def upd (l:bp) (x:String) (v:V):bp:=λy=>if y=x then some v else l y
structure S where
 l:bp
 H:Hp
inductive sG (σ α:Type) where
 | ok (a:α) (s:σ)
 | exc (c:String) (s:σ)
 | stuck
abbrev Cm (α:Type):=S->sG S α
noncomputable def Cm.b {α β:Type} (m:Cm α) (f:α->Cm β):Cm β:=λs=>match m s with
 | .ok a s'=>f a s'
 | .exc c s'=> .exc c s'
 | .stuck=> .stuck
noncomputable def Cm.p {α:Type} (a:α):Cm α:=λs=> .ok a s
noncomputable def Cm.stk {α:Type}:Cm α:=λ_=> .stuck
abbrev Fc:=List V->Hp->sG Hp V
inductive Fl where
 | next
 | ret (v:V)
structure Cx where
 prog:Program
 w:World
 K:Frag
 hB:Heap
 os:OsState
 mg:Str->Option Value
 mb:Str->Option Value
 cls:String->Option Addr
 xcl:String->Option Addr
 sa:Addr
 sv:List Value
 sn:List Int
abbrev Cx.M (G:Cx):Model:=model G.prog G.w
structure bL (G:Cx):Prop where
 X:G.K.In G.hB
 g:G.hB.Ns mainGlobals G.mg
 b:G.hB.Ns builtinsNs G.mb
 bt:∀x:Str,x ≠ "__name__" -> G.mb x=bootBuiltins x
 lim:G.hB.NoLimit
 seer:G.hB.NoSeer
 tree:G.prog.given.tree=none
 scr:G.hB.IsList G.sa G.sv.toArray
 isInts:IntsAre G.sv G.sn
 short:G.sn.length<=63
noncomputable def kP:List Stmt:=PySem.Challenge.pw_uf060003_09.main.body
noncomputable def kF (i:Nat):Stmt:=kP.getD i (.Pass ⟨0,0,0,0⟩)
noncomputable def kM (i j:Nat):Stmt:=match kF i with | .ClassDef _ _ _ b _ _ _ _ _ _ _=>b.getD j (.Pass ⟨0,0,0,0⟩) | s=>s
noncomputable def kA:Stmt->Arguments | .FunctionDef _ a _ _ _ _ _ _ _ _=>a | _=>⟨[],[],none,[],[],none,[]⟩
noncomputable def kB:Stmt->List Stmt | .FunctionDef _ _ b _ _ _ _ _ _ _=>b | _=>[]
noncomputable def kC:Stmt->Scope | .FunctionDef _ _ _ _ _ _ s _ _ _=>s | _=>default
noncomputable def kS (x:String) (t:Nat):Value:= .str (Str.ofString x) t
noncomputable def kE (P:Params) (x:String) (t:Nat) (v:Value):DictEntry:=⟨PyData.keyHash P (Str.ofString x),.str (Str.ofString x) t,v⟩
noncomputable def kO (r:Nat) (x y:String) (t n a l k:Nat):Addr×Obj:=(r+5,⟨(.type "code"),none,.fields #[(kS x t),(kS y (t+1)),(kS "/claim/cut.py" (t+2)),(.int n 0),(.int a 0),(.int 0 0),(.int 0 0),(.int l 0),(.ref r),(.bool true),(.int 181 0),(.ref (r+1)),.none,(.ref (r+2)),(.ref (r+3)),(.ref (r+4)),(.int k 0),(.int n 0),(kS "/claim/cut.py" (k+1))],#[]⟩)
noncomputable def kU (a:Nat) (x y:String) (b:Stmt) (v:Value):Addr×Obj:=(a,⟨(.type "function"),none,.func ⟨(Str.ofString x),(Str.ofString y),(kA b),(.stmts (kB b)),(kC b),3,[],.none,.none,.none,v,none,(.ref (a-1)),.none,0⟩,#[]⟩)
noncomputable def K0 (P:Params):Frag:=[
 (2,⟨.none,none,.dict #[] 0,#[]⟩),
 (3,⟨(.type "dict"),none,.dict #[(kE P "__name__" 165 (kS "law_uf060003_09" 649)),(kE P "__doc__" 166 .none),(kE P "__package__" 167 .none),(kE P "__loader__" 168 (.builtin "__main__.__loader__#opaque")),(kE P "__spec__" 169 .none),(kE P "__annotations__" 170 (.ref 6)),(kE P "__builtins__" 171 (.ref 4)),(kE P "__file__" 173 (kS "/claim/cut.py" 172)),(kE P "__cached__" 174 .none),(kE P "_wall" 193 (.ref 21)),(kE P "RoomError" 213 (.ref 31)),(kE P "BadPlan" 229 (.ref 44)),(kE P "BadWish" 245 (.ref 56)),(kE P "TooLarge" 261 (.ref 68)),(kE P "NoSize" 277 (.ref 80)),(kE P "NoRoom" 293 (.ref 92)),(kE P "NotOut" 309 (.ref 104)),(kE P "OutOfThing" 325 (.ref 116)),(kE P "Shelf" 402 (.ref 171)),(kE P "Room" 572 (.ref 295)),(kE P "MOST_PAGES" 576 (.int 40 575)),(kE P "MOST_LENGTH" 578 (.int 60 577)),(kE P "MOST_SIZES" 580 (.int 8 579)),(kE P "whole" 587 (.ref 306)),(kE P "between" 596 (.ref 313)),(kE P "Plan" 648 (.ref 344)),(kE P "_law_cell_at" 658 (.ref 355)),(kE P "_law_whole" 665 (.ref 362)),(kE P "_law_sizes_by" 679 (.ref 369)),(kE P "_law_plan_by" 690 (.ref 376)),(kE P "_law_size_by" 699 (.ref 383)),(kE P "_law_pairs" 707 (.ref 390)),(kE P "_law_gathered" 718 (.ref 397)),(kE P "_law_asked" 730 (.ref 404)),(kE P "_law_step" 743 (.ref 411)),(kE P "_law_history" 755 (.ref 418)),(kE P "_law_needed" 768 (.ref 425)),(kE P "_law_moves_fit" 774 (.ref 430)),(kE P "_law_behind" 783 (.ref 437)),(kE P "_law_kept" 796 (.ref 444)),(kE P "law" 802 (.ref 449))] 41,#[]⟩),
 kO 15 "_wall" "_wall" 187 1 1 3 191,
 kU 21 "_wall" "_wall" (kF 0) (kS "__main__" 164),
 (30,⟨(.type "dict"),none,.dict #[(kE P "__module__" 203 (kS "slabroom.errors" 194)),(kE P "__firstlineno__" 207 (.int 5 206)),(kE P "__static_attributes__" 208 (.ref 29)),(kE P "__weakref__" 210 (.ref 32)),(kE P "__doc__" 211 .none)] 3,#[]⟩),
 (31,⟨(.type "type"),none,.cls ⟨(Str.ofString "RoomError"),[(.type "ValueError")],[(.ref 31),(.type "ValueError"),(.type "Exception"),(.type "BaseException"),(.type "object")],30,(Str.ofString "RoomError"),true,[],[(.ref 44),(.ref 56),(.ref 68),(.ref 80),(.ref 92),(.ref 104),(.ref 116)],false,none,false⟩,#[(some (.ref 22)),none,(some (kS "RoomError" 196)),(some (kS "RoomError" 204)),(some (.builtin "ValueError.__new__")),(some (.bool true))]⟩),
 (43,⟨(.type "dict"),none,.dict #[(kE P "__module__" 221 (kS "slabroom.errors" 194)),(kE P "__firstlineno__" 225 (.int 7 224)),(kE P "__static_attributes__" 226 (.ref 42)),(kE P "__doc__" 227 .none)] 2,#[]⟩),
 (44,⟨(.type "type"),none,.cls ⟨(Str.ofString "BadPlan"),[(.ref 31)],[(.ref 44),(.ref 31),(.type "ValueError"),(.type "Exception"),(.type "BaseException"),(.type "object")],43,(Str.ofString "BadPlan"),true,[],[],false,none,false⟩,#[(some (.ref 35)),none,(some (kS "BadPlan" 214)),(some (kS "BadPlan" 222)),(some (.builtin "ValueError.__new__")),(some (.bool true))]⟩),
 (55,⟨(.type "dict"),none,.dict #[(kE P "__module__" 237 (kS "slabroom.errors" 194)),(kE P "__firstlineno__" 241 (.int 9 240)),(kE P "__static_attributes__" 242 (.ref 54)),(kE P "__doc__" 243 .none)] 2,#[]⟩),
 (56,⟨(.type "type"),none,.cls ⟨(Str.ofString "BadWish"),[(.ref 31)],[(.ref 56),(.ref 31),(.type "ValueError"),(.type "Exception"),(.type "BaseException"),(.type "object")],55,(Str.ofString "BadWish"),true,[],[],false,none,false⟩,#[(some (.ref 47)),none,(some (kS "BadWish" 230)),(some (kS "BadWish" 238)),(some (.builtin "ValueError.__new__")),(some (.bool true))]⟩),
 (67,⟨(.type "dict"),none,.dict #[(kE P "__module__" 253 (kS "slabroom.errors" 194)),(kE P "__firstlineno__" 257 (.int 11 256)),(kE P "__static_attributes__" 258 (.ref 66)),(kE P "__doc__" 259 .none)] 2,#[]⟩),
 (68,⟨(.type "type"),none,.cls ⟨(Str.ofString "TooLarge"),[(.ref 31)],[(.ref 68),(.ref 31),(.type "ValueError"),(.type "Exception"),(.type "BaseException"),(.type "object")],67,(Str.ofString "TooLarge"),true,[],[],false,none,false⟩,#[(some (.ref 59)),none,(some (kS "TooLarge" 246)),(some (kS "TooLarge" 254)),(some (.builtin "ValueError.__new__")),(some (.bool true))]⟩),
 (79,⟨(.type "dict"),none,.dict #[(kE P "__module__" 269 (kS "slabroom.errors" 194)),(kE P "__firstlineno__" 273 (.int 13 272)),(kE P "__static_attributes__" 274 (.ref 78)),(kE P "__doc__" 275 .none)] 2,#[]⟩),
 (80,⟨(.type "type"),none,.cls ⟨(Str.ofString "NoSize"),[(.ref 31)],[(.ref 80),(.ref 31),(.type "ValueError"),(.type "Exception"),(.type "BaseException"),(.type "object")],79,(Str.ofString "NoSize"),true,[],[],false,none,false⟩,#[(some (.ref 71)),none,(some (kS "NoSize" 262)),(some (kS "NoSize" 270)),(some (.builtin "ValueError.__new__")),(some (.bool true))]⟩),
 (91,⟨(.type "dict"),none,.dict #[(kE P "__module__" 285 (kS "slabroom.errors" 194)),(kE P "__firstlineno__" 289 (.int 15 288)),(kE P "__static_attributes__" 290 (.ref 90)),(kE P "__doc__" 291 .none)] 2,#[]⟩),
 (92,⟨(.type "type"),none,.cls ⟨(Str.ofString "NoRoom"),[(.ref 31)],[(.ref 92),(.ref 31),(.type "ValueError"),(.type "Exception"),(.type "BaseException"),(.type "object")],91,(Str.ofString "NoRoom"),true,[],[],false,none,false⟩,#[(some (.ref 83)),none,(some (kS "NoRoom" 278)),(some (kS "NoRoom" 286)),(some (.builtin "ValueError.__new__")),(some (.bool true))]⟩),
 (103,⟨(.type "dict"),none,.dict #[(kE P "__module__" 301 (kS "slabroom.errors" 194)),(kE P "__firstlineno__" 305 (.int 17 304)),(kE P "__static_attributes__" 306 (.ref 102)),(kE P "__doc__" 307 .none)] 2,#[]⟩),
 (104,⟨(.type "type"),none,.cls ⟨(Str.ofString "NotOut"),[(.ref 31)],[(.ref 104),(.ref 31),(.type "ValueError"),(.type "Exception"),(.type "BaseException"),(.type "object")],103,(Str.ofString "NotOut"),true,[],[],false,none,false⟩,#[(some (.ref 95)),none,(some (kS "NotOut" 294)),(some (kS "NotOut" 302)),(some (.builtin "ValueError.__new__")),(some (.bool true))]⟩),
 (115,⟨(.type "dict"),none,.dict #[(kE P "__module__" 317 (kS "slabroom.errors" 194)),(kE P "__firstlineno__" 321 (.int 19 320)),(kE P "__static_attributes__" 322 (.ref 114)),(kE P "__doc__" 323 .none)] 2,#[]⟩),
 (116,⟨(.type "type"),none,.cls ⟨(Str.ofString "OutOfThing"),[(.ref 31)],[(.ref 116),(.ref 31),(.type "ValueError"),(.type "Exception"),(.type "BaseException"),(.type "object")],115,(Str.ofString "OutOfThing"),true,[],[],false,none,false⟩,#[(some (.ref 107)),none,(some (kS "OutOfThing" 310)),(some (kS "OutOfThing" 318)),(some (.builtin "ValueError.__new__")),(some (.bool true))]⟩),
 kO 126 "__init__" "Shelf.__init__" 340 24 4 3 347,
 kU 132 "__init__" "Shelf.__init__" (kM 11 0) (kS "slabroom.shelf" 326),
 (136,⟨(.type "code"),none,.fields #[(kS "out" 350),(kS "Shelf.out" 351),(kS "/claim/cut.py" 352),(.int 29 0),(.int 1 0),(.int 0 0),(.int 0 0),(.int 3 0),(.ref 133),(.bool true),(.int 181 0),(.ref 134),.none,.none,.none,(.ref 135),(.int 353 0),(.int 29 0),(kS "/claim/cut.py" 354)],#[]⟩),
 kU 137 "out" "Shelf.out" (kM 11 1) (kS "slabroom.shelf" 326),
 (141,⟨(.type "code"),none,.fields #[(kS "free" 356),(kS "Shelf.free" 357),(kS "/claim/cut.py" 358),(.int 32 0),(.int 1 0),(.int 0 0),(.int 0 0),(.int 3 0),(.ref 138),(.bool true),(.int 181 0),(.ref 139),.none,.none,.none,(.ref 140),(.int 359 0),(.int 32 0),(kS "/claim/cut.py" 360)],#[]⟩),
 (142,⟨(.type "function"),none,.func ⟨(Str.ofString "free"),(Str.ofString "Shelf.free"),(kA (kM 11 2)),(.stmts (kB (kM 11 2))),(kC (kM 11 3)),3,[],.none,.none,.none,(kS "slabroom.shelf" 326),none,(.ref 141),.none,0⟩,#[]⟩),
 (146,⟨(.type "code"),none,.fields #[(kS "gone" 362),(kS "Shelf.gone" 363),(kS "/claim/cut.py" 364),(.int 35 0),(.int 1 0),(.int 0 0),(.int 0 0),(.int 3 0),(.ref 143),(.bool true),(.int 181 0),(.ref 144),.none,.none,.none,(.ref 145),(.int 365 0),(.int 35 0),(kS "/claim/cut.py" 366)],#[]⟩),
 kU 147 "gone" "Shelf.gone" (kM 11 3) (kS "slabroom.shelf" 326),
 kO 148 "take" "Shelf.take" 368 38 1 3 373,
 kU 154 "take" "Shelf.take" (kM 11 4) (kS "slabroom.shelf" 326),
 kO 155 "has" "Shelf.has" 376 45 2 3 381,
 kU 161 "has" "Shelf.has" (kM 11 5) (kS "slabroom.shelf" 326),
 kO 162 "give" "Shelf.give" 384 48 2 3 389,
 kU 168 "give" "Shelf.give" (kM 11 6) (kS "slabroom.shelf" 326),
 (170,⟨(.type "dict"),none,.dict #[(kE P "__module__" 335 (kS "slabroom.shelf" 326)),(kE P "__firstlineno__" 339 (.int 22 338)),(kE P "__init__" 349 (.ref 132)),(kE P "out" 355 (.ref 137)),(kE P "free" 361 (.ref 142)),(kE P "gone" 367 (.ref 147)),(kE P "take" 375 (.ref 154)),(kE P "has" 383 (.ref 161)),(kE P "give" 391 (.ref 168)),(kE P "__static_attributes__" 395 (.ref 169)),(kE P "__dict__" 397 (.ref 172)),(kE P "__weakref__" 399 (.ref 173)),(kE P "__doc__" 400 .none)] 4,#[]⟩),
 (171,⟨(.type "type"),none,.cls ⟨(Str.ofString "Shelf"),[(.type "object")],[(.ref 171),(.type "object")],170,(Str.ofString "Shelf"),true,[],[],false,none,false⟩,#[none,none,(some (kS "Shelf" 328)),(some (kS "Shelf" 336)),(some (.builtin "object.__new__")),(some (.bool true))]⟩),
 kO 183 "__init__" "Room.__init__" 417 55 2 3 422,
 kU 189 "__init__" "Room.__init__" (kM 13 0) (kS "slabroom.room" 403),
 (193,⟨(.type "code"),none,.fields #[(kS "pile" 425),(kS "Room.pile" 426),(kS "/claim/cut.py" 427),(.int 60 0),(.int 1 0),(.int 0 0),(.int 0 0),(.int 3 0),(.ref 190),(.bool true),(.int 181 0),(.ref 191),.none,.none,.none,(.ref 192),(.int 428 0),(.int 60 0),(kS "/claim/cut.py" 429)],#[]⟩),
 kU 194 "pile" "Room.pile" (kM 13 1) (kS "slabroom.room" 403),
 (198,⟨(.type "code"),none,.fields #[(kS "empty_pages" 431),(kS "Room.empty_pages" 432),(kS "/claim/cut.py" 433),(.int 63 0),(.int 1 0),(.int 0 0),(.int 0 0),(.int 3 0),(.ref 195),(.bool true),(.int 181 0),(.ref 196),.none,.none,.none,(.ref 197),(.int 434 0),(.int 63 0),(kS "/claim/cut.py" 435)],#[]⟩),
 (199,⟨(.type "function"),none,.func ⟨(Str.ofString "empty_pages"),(Str.ofString "Room.empty_pages"),(kA (kM 13 2)),(.stmts (kB (kM 13 2))),(kC (kM 13 17)),3,[],.none,.none,.none,(kS "slabroom.room" 403),none,(.ref 198),.none,0⟩,#[]⟩),
 (203,⟨(.type "code"),none,.fields #[(kS "of_size" 437),(kS "Room.of_size" 438),(kS "/claim/cut.py" 439),(.int 66 0),(.int 2 0),(.int 0 0),(.int 0 0),(.int 3 0),(.ref 200),(.bool true),(.int 181 0),(.ref 201),.none,.none,.none,(.ref 202),(.int 440 0),(.int 66 0),(kS "/claim/cut.py" 441)],#[]⟩),
 kU 204 "of_size" "Room.of_size" (kM 13 3) (kS "slabroom.room" 403),
 kO 205 "begin" "Room.begin" 443 69 3 3 449,
 kU 211 "begin" "Room.begin" (kM 13 4) (kS "slabroom.room" 403),
 kO 212 "found" "Room.found" 452 72 2 3 460,
 kU 218 "found" "Room.found" (kM 13 5) (kS "slabroom.room" 403),
 kO 219 "fresh" "Room.fresh" 463 82 2 3 469,
 kU 225 "fresh" "Room.fresh" (kM 13 6) (kS "slabroom.room" 403),
 kO 226 "wish" "Room.wish" 472 91 2 3 483,
 kU 232 "wish" "Room.wish" (kM 13 7) (kS "slabroom.room" 403),
 (236,⟨(.type "code"),none,.fields #[(kS "give_back" 486),(kS "Room.give_back" 487),(kS "/claim/cut.py" 488),(.int 105 0),(.int 2 0),(.int 0 0),(.int 0 0),(.int 3 0),(.ref 233),(.bool true),(.int 181 0),(.ref 234),.none,.none,.none,(.ref 235),(.int 489 0),(.int 105 0),(kS "/claim/cut.py" 490)],#[]⟩),
 kU 237 "give_back" "Room.give_back" (kM 13 8) (kS "slabroom.room" 403),
 kO 238 "trim" "Room.trim" 492 113 1 3 498,
 kU 244 "trim" "Room.trim" (kM 13 9) (kS "slabroom.room" 403),
 kO 245 "room_for" "Room.room_for" 501 119 2 3 506,
 kU 251 "room_for" "Room.room_for" (kM 13 10) (kS "slabroom.room" 403),
 kO 252 "cell" "Room.cell" 509 122 3 3 516,
 kU 258 "cell" "Room.cell" (kM 13 11) (kS "slabroom.room" 403),
 kO 259 "read" "Room.read" 519 128 3 3 525,
 kU 265 "read" "Room.read" (kM 13 12) (kS "slabroom.room" 403),
 kO 266 "write" "Room.write" 528 131 4 3 535,
 kU 272 "write" "Room.write" (kM 13 13) (kS "slabroom.room" 403),
 (276,⟨(.type "code"),none,.fields #[(kS "gather" 538),(kS "Room.gather" 539),(kS "/claim/cut.py" 540),(.int 134 0),(.int 2 0),(.int 0 0),(.int 0 0),(.int 3 0),(.ref 273),(.bool true),(.int 181 0),(.ref 274),.none,.none,.none,(.ref 275),(.int 541 0),(.int 134 0),(kS "/claim/cut.py" 542)],#[]⟩),
 kU 277 "gather" "Room.gather" (kM 13 14) (kS "slabroom.room" 403),
 (281,⟨(.type "code"),none,.fields #[(kS "moved" 544),(kS "Room.moved" 545),(kS "/claim/cut.py" 546),(.int 150 0),(.int 4 0),(.int 0 0),(.int 0 0),(.int 3 0),(.ref 278),(.bool true),(.int 181 0),(.ref 279),.none,.none,.none,(.ref 280),(.int 547 0),(.int 150 0),(kS "/claim/cut.py" 548)],#[]⟩),
 kU 282 "moved" "Room.moved" (kM 13 15) (kS "slabroom.room" 403),
 (286,⟨(.type "code"),none,.fields #[(kS "things" 550),(kS "Room.things" 551),(kS "/claim/cut.py" 552),(.int 157 0),(.int 1 0),(.int 0 0),(.int 0 0),(.int 3 0),(.ref 283),(.bool true),(.int 181 0),(.ref 284),.none,.none,.none,(.ref 285),(.int 553 0),(.int 157 0),(kS "/claim/cut.py" 554)],#[]⟩),
 kU 287 "things" "Room.things" (kM 13 16) (kS "slabroom.room" 403),
 (291,⟨(.type "code"),none,.fields #[(kS "shelves" 556),(kS "Room.shelves" 557),(kS "/claim/cut.py" 558),(.int 164 0),(.int 1 0),(.int 0 0),(.int 0 0),(.int 3 0),(.ref 288),(.bool true),(.int 181 0),(.ref 289),.none,.none,.none,(.ref 290),(.int 559 0),(.int 164 0),(kS "/claim/cut.py" 560)],#[]⟩),
 kU 292 "shelves" "Room.shelves" (kM 13 17) (kS "slabroom.room" 403),
 (294,⟨(.type "dict"),none,.dict #[(kE P "__module__" 412 (kS "slabroom.room" 403)),(kE P "__firstlineno__" 416 (.int 53 415)),(kE P "__init__" 424 (.ref 189)),(kE P "pile" 430 (.ref 194)),(kE P "empty_pages" 436 (.ref 199)),(kE P "of_size" 442 (.ref 204)),(kE P "begin" 451 (.ref 211)),(kE P "found" 462 (.ref 218)),(kE P "fresh" 471 (.ref 225)),(kE P "wish" 485 (.ref 232)),(kE P "give_back" 491 (.ref 237)),(kE P "trim" 500 (.ref 244)),(kE P "room_for" 508 (.ref 251)),(kE P "cell" 518 (.ref 258)),(kE P "read" 527 (.ref 265)),(kE P "write" 537 (.ref 272)),(kE P "gather" 543 (.ref 277)),(kE P "moved" 549 (.ref 282)),(kE P "things" 555 (.ref 287)),(kE P "shelves" 561 (.ref 292)),(kE P "__static_attributes__" 565 (.ref 293)),(kE P "__dict__" 567 (.ref 296)),(kE P "__weakref__" 569 (.ref 297)),(kE P "__doc__" 570 .none)] 4,#[]⟩),
 (295,⟨(.type "type"),none,.cls ⟨(Str.ofString "Room"),[(.type "object")],[(.ref 295),(.type "object")],294,(Str.ofString "Room"),true,[],[],false,none,false⟩,#[none,none,(some (kS "Room" 405)),(some (kS "Room" 413)),(some (.builtin "object.__new__")),(some (.bool true))]⟩),
 kO 300 "whole" "whole" 581 170 1 3 585,
 kU 306 "whole" "whole" (kF 18) (kS "slabroom.plans" 573),
 kO 307 "between" "between" 588 172 3 3 594,
 kU 313 "between" "between" (kF 19) (kS "slabroom.plans" 573),
 kO 321 "__init__" "Plan.__init__" 609 176 4 3 618,
 kU 327 "__init__" "Plan.__init__" (kM 20 0) (kS "slabroom.plans" 573),
 kO 328 "size_for" "Plan.size_for" 621 190 2 3 627,
 kU 334 "size_for" "Plan.size_for" (kM 20 1) (kS "slabroom.plans" 573),
 kO 335 "per" "Plan.per" 630 198 2 3 635,
 kU 341 "per" "Plan.per" (kM 20 2) (kS "slabroom.plans" 573),
 (343,⟨(.type "dict"),none,.dict #[(kE P "__module__" 604 (kS "slabroom.plans" 573)),(kE P "__firstlineno__" 608 (.int 174 607)),(kE P "__init__" 620 (.ref 327)),(kE P "size_for" 629 (.ref 334)),(kE P "per" 637 (.ref 341)),(kE P "__static_attributes__" 641 (.ref 342)),(kE P "__dict__" 643 (.ref 345)),(kE P "__weakref__" 645 (.ref 346)),(kE P "__doc__" 646 .none)] 4,#[]⟩),
 (344,⟨(.type "type"),none,.cls ⟨(Str.ofString "Plan"),[(.type "object")],[(.ref 344),(.type "object")],343,(Str.ofString "Plan"),true,[],[],false,none,false⟩,#[none,none,(some (kS "Plan" 597)),(some (kS "Plan" 605)),(some (.builtin "object.__new__")),(some (.bool true))]⟩),
 kO 349 "_law_cell_at" "_law_cell_at" 651 203 2 3 656,
 kU 355 "_law_cell_at" "_law_cell_at" (kF 22) (kS "law_uf060003_09" 649),
 kO 356 "_law_whole" "_law_whole" 659 207 1 3 663,
 kU 362 "_law_whole" "_law_whole" (kF 23) (kS "law_uf060003_09" 649),
 kO 363 "_law_sizes_by" "_law_sizes_by" 666 209 3 3 677,
 kU 369 "_law_sizes_by" "_law_sizes_by" (kF 24) (kS "law_uf060003_09" 649),
 kO 370 "_law_plan_by" "_law_plan_by" 680 224 1 3 688,
 kU 376 "_law_plan_by" "_law_plan_by" (kF 25) (kS "law_uf060003_09" 649),
 kO 377 "_law_size_by" "_law_size_by" 691 239 2 3 697,
 kU 383 "_law_size_by" "_law_size_by" (kF 26) (kS "law_uf060003_09" 649),
 kO 384 "_law_pairs" "_law_pairs" 700 244 1 3 705,
 kU 390 "_law_pairs" "_law_pairs" (kF 27) (kS "law_uf060003_09" 649),
 kO 391 "_law_gathered" "_law_gathered" 708 253 3 3 716,
 kU 397 "_law_gathered" "_law_gathered" (kF 28) (kS "law_uf060003_09" 649),
 kO 398 "_law_asked" "_law_asked" 719 262 4 3 728,
 kU 404 "_law_asked" "_law_asked" (kF 29) (kS "law_uf060003_09" 649),
 kO 405 "_law_step" "_law_step" 731 272 5 3 741,
 kU 411 "_law_step" "_law_step" (kF 30) (kS "law_uf060003_09" 649),
 kO 412 "_law_history" "_law_history" 744 289 4 3 753,
 kU 418 "_law_history" "_law_history" (kF 31) (kS "law_uf060003_09" 649),
 kO 419 "_law_needed" "_law_needed" 756 295 3 3 766,
 kU 425 "_law_needed" "_law_needed" (kF 32) (kS "law_uf060003_09" 649),
 (429,⟨(.type "code"),none,.fields #[(kS "_law_moves_fit" 769),(kS "_law_moves_fit" 770),(kS "/claim/cut.py" 771),(.int 303 0),(.int 5 0),(.int 0 0),(.int 0 0),(.int 3 0),(.ref 426),(.bool true),(.int 181 0),(.ref 427),.none,.none,.none,(.ref 428),(.int 772 0),(.int 303 0),(kS "/claim/cut.py" 773)],#[]⟩),
 kU 430 "_law_moves_fit" "_law_moves_fit" (kF 33) (kS "law_uf060003_09" 649),
 kO 431 "_law_behind" "_law_behind" 775 315 2 3 781,
 kU 437 "_law_behind" "_law_behind" (kF 34) (kS "law_uf060003_09" 649),
 kO 438 "_law_kept" "_law_kept" 784 320 3 3 794,
 kU 444 "_law_kept" "_law_kept" (kF 35) (kS "law_uf060003_09" 649),
 (448,⟨(.type "code"),none,.fields #[(kS "law" 797),(kS "law" 798),(kS "/claim/cut.py" 799),(.int 328 0),(.int 1 0),(.int 0 0),(.int 0 0),(.int 3 0),(.ref 445),(.bool true),(.int 181 0),(.ref 446),.none,.none,.none,(.ref 447),(.int 800 0),(.int 328 0),(kS "/claim/cut.py" 801)],#[]⟩),
 kU 449 "law" "law" (kF 36) (kS "law_uf060003_09" 649)]
noncomputable def ko:List (String×Addr):=[("Shelf",171),("Room",295),("Plan",344)]
noncomputable def JV:List (String×Addr):=[("RoomError",31),("BadPlan",44),("BadWish",56),("TooLarge",68),("NoSize",80),("NoRoom",92),("NotOut",104),("OutOfThing",116)]
noncomputable def Gx (w:World) (hB:Heap) (os:OsState) (mg mb:Str->Option Value) (sa:Addr) (sv:List Value) (sn:List Int):Cx:={ prog:=PySem.Challenge.rw_uf060003_09.row.prog,w:=w,K:=K0 w.params,hB:=hB,os:=os,mg:=mg,mb:=mb,cls:=λc=>ko.lookup c,xcl:=λc=>JV.lookup c,sa:=sa,sv:=sv,sn:=sn }
def xn (f:Addr) (G:Cx):Prop:= ∀(s₁:Shared) (R:Result->Shared->Prop),G.hB=s₁.heap->s₁.os=G.os->s₁.gens = #[] ->
 (∀s',(∀b o,s₁.heap.get? b=some o->s'.heap.get? b=some o)->s'.os=s₁.os->s'.gens = #[]->R (.ok (.ret (.bool true))) s')->codeAny G.M callerA (.call (.ref f) ⟨[.ref G.sa],[]⟩) R s₁
structure Tp where
 w:World
 hB:Heap
 os:OsState
 mg:Str->Option Value
 mb:Str->Option Value
 sa:Addr
 sv:List Value
 sn:List Int
noncomputable def Tp.G (t:Tp):Cx:=Gx t.w t.hB t.os t.mg t.mb t.sa t.sv t.sn
def Tp.Bad (t:Tp):Prop:=bL t.G/\ ¬xn 449 t.G
noncomputable def tp:Tp:= @Classical.epsilon Tp ⟨⟨aWorld 0,default,default,λ_=>none,λ_=>none,0,[],[]⟩⟩ Tp.Bad
noncomputable def G:Cx:=tp.G
noncomputable abbrev sn:List Int:=G.sn
theorem iG (h:bL G->xn 449 G) (t:Tp) (c:bL t.G):xn 449 t.G:=Classical.byContradiction λn =>
 have b:= @Classical.epsilon_spec Tp Tp.Bad ⟨t,c,n⟩
 b.2 (h b.1)
structure Ho (lt:Keyed->Keyed->Bool):Prop where
 asym:∀ {x y},lt x y=true->lt y x=false
 ntr:∀ {x y z},lt x y=false->lt y z=false->lt x z=false
structure qG (M:Model) (A:Around) (E:Value->Shared->Prop) (s:Shared) (lt:Keyed->Keyed->Bool) (ok:Keyed->Prop) (κ:SortKind):Prop where
 lin:Ho lt
 ask:∀ {x y:Keyed} {st:SortSt} {Q:Option Bool->SortSt->Prop},ok x->ok y->kindOf st=κ->Q (some (lt x y)) st->wpS M A E s (lt' x y) Q st
def Le (lt:Keyed->Keyed->Bool) (x y:Keyed):Prop:=lt y x=false
def qF (lt:Keyed->Keyed->Bool) (w c:List Keyed):Prop:=c.Pairwise (Le lt)/\c.Perm w
structure TT where
 A:Around
 E:Value->Shared->Prop
 s:Shared
 lt:Keyed->Keyed->Bool
 ok:Keyed->Prop
 κ:SortKind
def TT.Goal (t:TT):Prop:=qG G.M t.A t.E t.s t.lt t.ok t.κ-> ∀W:List Keyed,(∀x∈W,t.ok x)-> ∀st:SortSt,kindOf st=t.κ->failedOf st=none->pendingOf st = #[]->(arrOf st).toList=W-> ∀Q:Unit->SortSt->Prop,
 (∀c st',failedOf st'=none->(arrOf st').toList=c->qF t.lt W c->Q () st')->wpS G.M t.A t.E t.s sortRuns' Q st
noncomputable def tt:TT:= @Classical.epsilon TT ⟨⟨callerA,λ_ _=>True,({}:Shared),λ_ _=>true,λ_=>True,tuples' true⟩⟩ λt=> ¬t.Goal
noncomputable def Tq.A:Around:=tt.A
noncomputable def Tq.E:Value->Shared->Prop:=tt.E
noncomputable def Tq.s:Shared:=tt.s
noncomputable def Tq.lt:Keyed->Keyed->Bool:=tt.lt
noncomputable def Tq.ok:Keyed->Prop:=tt.ok
noncomputable def Tq.κ:SortKind:=tt.κ
noncomputable abbrev Tq.prog:Program:=G.prog
noncomputable abbrev Tq.w:World:=G.w
noncomputable abbrev Tq.M:Model:=G.M
section
open Mine.Lake.Tq
set_option linter.unusedVariables false
open PySem PyProof.Rows
theorem JL {lo hi:Nat} (h:¬lo>=hi):lo<=lo+(hi-lo)/2/\lo+(hi-lo)/2<hi :=
 have h:=Nat.lt_of_not_le h
 ⟨aaQ _ _,Nat.lt_of_lt_of_eq (Nat.add_lt_add_left (Nat.div_lt_self (Nat.sub_pos_of_lt h) ∅) lo) (Nat.add_sub_cancel' (Nat.le_of_lt h))⟩
theorem JK {h la ofs:Nat} (a:la<ofs) (b:la<=h):h+1-min ofs (h+1)<=h-la :=
 aao (Nat.sub_le_sub_left (Nat.le_min.mpr ⟨a,Nat.succ_le_succ b⟩) (h+1)) (Nat.le_of_eq (Nat.add_sub_add_right h 1 la))
noncomputable def fc:Bool->Keyed->Array Keyed->Nat->Nat->Nat->StateT SortSt Sem (Option Nat):=sortPriv% PySem.Builtin.gallop
noncomputable def fD (left:Bool) (key:Keyed) (arr:Array Keyed) (base i:Nat):StateT SortSt Sem (Option Bool):=do
 let x <- elem' arr (base+i)
 if left then lt' x key else return (<- lt' key x).map (!·)
theorem AN (left:Bool) (key:Keyed) (arr:Array Keyed) (base n hint:Nat):fc left key arr base n hint=(do
 let mut lastofs:=0
 let mut ofs:=1
 let mut lo:=0
 let mut hi:=0
 let some right <- fD left key arr base hint | return none
 if right then
  let maxofs:=n-hint
  for _ in [0:n] do
   if ofs>=maxofs then break
   let some more <- fD left key arr base (hint+ofs) | return none
   if !more then break
   lastofs:=ofs
   ofs:=2*ofs+1
  lo:=hint+lastofs+1
  hi:=hint+min ofs maxofs
 else
  let maxofs:=hint+1
  for _ in [0:n] do
   if ofs>=maxofs then break
   let some found <- fD left key arr base (hint-ofs) | return none
   if found then break
   lastofs:=ofs
   ofs:=2*ofs+1
  lo:=hint+1-min ofs maxofs
  hi:=hint-lastofs
 for _ in [0:n] do
  if lo>=hi then break
  let m:=lo+(hi-lo)/2
  let some more <- fD left key arr base m | return none
  if more then lo:=m+1 else hi:=m
 return some hi):=rfl
section
noncomputable def G0 (lt:Keyed->Keyed->Bool) (left:Bool) (key x:Keyed):Bool:=if left then lt x key else !lt key x
theorem bF {arr:Array Keyed} {i:Nat} {x:Keyed} {st:SortSt} {Q:Keyed->SortSt->Prop} (h:arr[i]? = some x) (hQ:Q x st):wpS M A E s (elem' arr i) Q st:=by
 rw [elem'_eq,h];exact wpS_pure hQ
theorem Bq (a:qG M A E s lt ok κ) {left:Bool} {key x:Keyed} {arr:Array Keyed} {base i:Nat} {st:SortSt} {Q:Option Bool->SortSt->Prop} (hx:arr[base+i]? = some x) (ox:ok x) (okk:ok key) (hk:kindOf st=κ) (hQ:Q (some (G0 lt left key x)) st) :
  wpS M A E s (fD left key arr base i) Q st:=by
 unfold fD
 refine wpS_bind (bF hx ?_)
 cases left with
 | true=>exact a.ask ox okk hk hQ
 | false=>exact wpS_bind (a.ask okk ox hk (wpS_pure hQ))
noncomputable def CX (left:Bool) (key:Keyed) (arr:Array Keyed) (base n lo0 hi0:Nat):StateT SortSt Sem (Option Nat):=do
 let mut lo:=lo0
 let mut hi:=hi0
 for _ in [0:n] do
  if lo>=hi then break
  let m:=lo+(hi-lo)/2
  let some more <- fD left key arr base m | return none
  if more then lo:=m+1 else hi:=m
 return some hi
section
variable {left:Bool} {key:Keyed} {arr:Array Keyed} {base n hint:Nat} {st:SortSt} {Q:Option Nat->SortSt->Prop} {b:Nat->Bool}
 (ask:∀ {i:Nat} {Q:Option Bool->SortSt->Prop},i<n->Q (some (b i)) st->wpS M A E s (fD left key arr base i) Q st)
 (mono:∀i j,i<=j->j<n->b j=true->b i=true)
 (hQ:∀k,k<=n->(∀i,i<k->b i=true)->(∀i,k<=i->i<n->b i=false)->Q (some k) st)
include ask mono hQ
theorem xS {m:Nat} (h:b m=false):∀i,m<=i->i<n->b i=false:=λi h1 h2=>by
 cases e:b i with
 | false=>rfl
 | true=>rw [mono m i h1 h2 e] at h;cases h
theorem Ap {lo hi:Nat} (h1:lo<=hi) (h2:hi<=n) (h3:∀i,i<lo->b i=true) (h4:∀i,hi<=i->i<n->b i=false):wpS M A E s (CX left key arr base n lo hi) Q st:=by
 unfold CX
 refine wpS_bind (wpS_forRange (I:=λx c st'=>st'=st/\ ∃lo hi,c=(none,lo,hi)/\lo<=hi/\hi<=n/\hi-lo+x<=n/\(∀i,i<lo->b i=true)/\ ∀i,hi<=i->i<n->b i=false) ?step ?iG ⟨rfl,lo,hi,rfl,h1,h2,aK 0x1092c0020110012 [_,_,_] rfl h2 (Nat.sub_le _ _),h3,h4⟩)
 case iG =>
  rintro c st' ⟨rfl,lo,hi,rfl,h1,h2,h3,h4,h5⟩
  rw [Nat.zero_max] at h3
  obtain rfl:lo=hi:=aag (h1) (aK 0x32030c201110c012 [_,_,_,_] rfl h3 (sA _ _))
  exact wpS_pure (hQ lo h2 h4 h5)
 case step =>
  rintro x c st' _ hx ⟨rfl,lo,hi,rfl,h1,h2,h3,h4,h5⟩
  dsimp only
  by_cases hc:lo>=hi
  ·rw [if_pos hc]
   obtain rfl:lo=hi:=aag (h1) (hc)
   exact wpS_pure (wpS_pure (hQ lo h2 h4 h5))
  ·rw [if_neg hc]
   refine bz (lo+(hi-lo)/2) λm em=> ?_
   have hm2:=JL hc
   rw [em] at hm2 ⊢
   refine wpS_bind (ask (lh 0x121021110012 h2 hm2.2) ?_)
   cases hm:b m with
   | true =>
    refine wpS_pure ⟨rfl,m+1,hi,rfl,cu 0x1190c010111 hm2.2,h2,(Nat.le_total _ _).elim (λy2=>fu [_,_,_,_,_,_,_,_] [] 0x2191c6c030c7017195c6c21543c21210c014 h3 em (aab y2) (sA _ _)) (λy2=>lh 0x1190c2c00922110112 hx (aa0 y2)),λi hi'=>mono i m (aK 0x100191c0111 [_,_] rfl hi') (lh 0x121021110012 h2 hm2.2) hm,h5⟩
   | false =>
    exact wpS_pure ⟨rfl,lo,m,rfl,aK 0x200210c211 [_,_,_] rfl em,lh 0x120021110012 h2 hm2.2,fu [_,_,_,_,_,_,_] [] 0x2191c5c060c401365c214311210c014 h3 hm2.2 (aab (lh 0x200210c211 em)) (sA _ _),h4,xS ask mono hQ hm⟩
theorem FF (hh:hint<n) (hb:b hint=true):wpS M A E s (do
  let mut lastofs:=0
  let mut ofs:=1
  for _ in [0:n] do
   if ofs>=n-hint then break
   let some more <- fD left key arr base (hint+ofs) | return none
   if !more then break
   lastofs:=ofs
   ofs:=2*ofs+1
  CX left key arr base n (hint+lastofs+1) (hint+min ofs (n-hint))) Q st:=by
 have go:∀la ofs,la<ofs->b (hint+la)=true->hint+la<n->(n-hint<=ofs\/(hint+ofs<n/\b (hint+ofs)=false))->wpS M A E s (CX left key arr base n (hint+la+1) (hint+min ofs (n-hint))) Q st:=λla ofs a1 a2 a3 a4=>by
  refine Ap ask mono hQ (Nat.add_le_add_left (Nat.le_min.mpr ⟨a1,vF 0x3191c003c201210c112 a3 (sA _ _)⟩) hint) (aK 0x302c0321c2110012 [_,_,_,_] rfl (Nat.min_le_right _ _) (aab (aK 0x10010111 [_,_] rfl hh))) (λi hi=>mono i (hint+la) (aK 0x21c001921cc0111 [_,_,_] rfl hi) a3 a2) λi h1 h2=> ?_
  rcases a4 with a4 | ⟨a4,a5⟩
  ·rw [Nat.min_eq_right a4] at h1;exact absurd h2 (vF 0x32501c301210c012 h1 (sA _ _))
  ·rw [Nat.min_eq_left (by exact vF 0x31003c201210c112 a4 (sA _ _))] at h1;exact xS ask mono hQ a5 i h1 h2
 refine wpS_bind (wpS_forRange (I:=λx c st'=>st'=st/\ ∃la ofs,c=(none,la,ofs)/\la<ofs/\x+1<=ofs/\b (hint+la)=true/\hint+la<n) ?step ?iG ⟨rfl,0,1,rfl,aK 0x190910 [] rfl,aK 0x191909c00 [] rfl,hb,hh⟩)
 case iG =>
  rintro c st' ⟨rfl,la,ofs,rfl,h1,h2,h3,h4⟩
  rw [Nat.zero_max] at h2
  exact go la ofs h1 h3 h4 (.inl (aK 0x12002011190c012 [_,_,_] rfl h2 (Nat.sub_le _ _)))
 case step =>
  rintro x c st' _ hx ⟨rfl,la,ofs,rfl,h1,h2,h3,h4⟩
  dsimp only
  by_cases hc:ofs>=n-hint
  ·rw [if_pos hc];exact wpS_pure (go la ofs h1 h3 h4 (.inl hc))
  ·rw [if_neg hc]
   refine wpS_bind (ask (aK 0x312c1320c2110412 [_,_,_,_] rfl hc (aab (aK 0x10010111 [_,_] rfl hh))) ?_)
   cases hm:b (hint+ofs) with
   | true=>exact wpS_pure ⟨rfl,ofs,2*ofs+1,rfl,aK 0x19002dc010 [_] rfl,aK 0x19102dc19190cc01190c011 [_,_] rfl h2,hm,aK 0x312c1320c2110412 [_,_,_,_] rfl hc (aab (aK 0x10010111 [_,_] rfl hh))⟩
   | false=>exact wpS_pure (go la ofs h1 h3 h4 (.inr ⟨aK 0x312c1320c2110412 [_,_,_,_] rfl hc (aab (aK 0x10010111 [_,_] rfl hh)),hm⟩))
theorem FE (hh:hint<n) (hb:b hint=false):wpS M A E s (do
  let mut lastofs:=0
  let mut ofs:=1
  for _ in [0:n] do
   if ofs>=hint+1 then break
   let some found <- fD left key arr base (hint-ofs) | return none
   if found then break
   lastofs:=ofs
   ofs:=2*ofs+1
  CX left key arr base n (hint+1-min ofs (hint+1)) (hint-lastofs)) Q st:=by
 have go:∀la ofs,la<ofs->b (hint-la)=false->la<=hint->(hint+1<=ofs\/(ofs<=hint/\b (hint-ofs)=true))->wpS M A E s (CX left key arr base n (hint+1-min ofs (hint+1)) (hint-la)) Q st:=λla ofs a1 a2 a3 a4=>by
  refine Ap ask mono hQ (JK a1 a3) (aK 0x120020110112 [_,_,_] rfl hh (Nat.sub_le _ _)) (λi hi=> ?_) (xS ask mono hQ a2)
  rcases a4 with a4 | ⟨a4,a5⟩
  ·rw [Nat.min_eq_right a4,Nat.sub_self] at hi;exact absurd hi (Nat.not_lt_zero _)
  ·rw [Nat.min_eq_left (by exact cu 0x191c0010011 a4)] at hi;exact mono i (hint-ofs) (by exact zI 0x300192c41c2143c20110113 hi (sA _ _) (aab (cu 0x191c0010011 a4))) (aK 0x121020110112 [_,_,_] rfl hh (Nat.sub_le _ _)) a5
 refine wpS_bind (wpS_forRange (I:=λx c st'=>st'=st/\ ∃la ofs,c=(none,la,ofs)/\la<ofs/\x+1<=ofs/\b (hint-la)=false/\la<=hint) ?step ?iG ⟨rfl,0,1,rfl,aK 0x190910 [] rfl,aK 0x191909c00 [] rfl,hb,aK 0x900 [_] rfl⟩)
 case iG =>
  rintro c st' ⟨rfl,la,ofs,rfl,h1,h2,h3,h4⟩
  rw [Nat.zero_max] at h2
  exact go la ofs h1 h3 h4 (.inl (aK 0x2190c02191c0110112 [_,_,_] rfl hh h2))
 case step =>
  rintro x c st' _ hx ⟨rfl,la,ofs,rfl,h1,h2,h3,h4⟩
  dsimp only
  by_cases hc:ofs>=hint+1
  ·rw [if_pos hc];exact wpS_pure (go la ofs h1 h3 h4 (.inl hc))
  ·rw [if_neg hc]
   refine wpS_bind (ask (aK 0x121020110112 [_,_,_] rfl hh (Nat.sub_le _ _)) ?_)
   cases hm:b (hint-ofs) with
   | true=>exact wpS_pure (go la ofs h1 h3 h4 (.inr ⟨aK 0x101190c411 [_,_] rfl hc,hm⟩))
   | false=>exact wpS_pure ⟨rfl,ofs,2*ofs+1,rfl,aK 0x19002dc010 [_] rfl,aK 0x19102dc19190cc01190c011 [_,_] rfl h2,hm,aK 0x101190c411 [_,_] rfl hc⟩
end
theorem lD (a:qG M A E s lt ok κ) {left:Bool} {key:Keyed} {arr:Array Keyed} {base n hint:Nat} {st:SortSt} {Q:Option Nat->SortSt->Prop} {f:Nat->Keyed} (hk:kindOf st=κ) (okk:ok key)
  (hf:∀i,i<n->arr[base+i]? = some (f i)/\ok (f i)) (hh:hint<n) (mono:∀i j,i<=j->j<n->G0 lt left key (f j)=true->G0 lt left key (f i)=true)
  (hQ:∀k,k<=n->(∀i,i<k->G0 lt left key (f i)=true)->(∀i,k<=i->i<n->G0 lt left key (f i)=false)->Q (some k) st) :
  wpS M A E s (fc left key arr base n hint) Q st:=by
 have ask:∀ {i:Nat} {Q:Option Bool->SortSt->Prop},i<n->Q (some (G0 lt left key (f i))) st->wpS M A E s (fD left key arr base i) Q st:=λ{i Q} hi h=>Bq a (hf i hi).1 (hf i hi).2 okk hk h
 obtain ⟨b,eb⟩:∃b:Nat->Bool,(λi=>G0 lt left key (f i))=b:=⟨_,rfl⟩
 have eb':∀i,G0 lt left key (f i)=b i:=λi=>by rw [<- eb]
 simp only [eb'] at ask mono hQ
 rw [AN]
 refine wpS_bind (ask hh ?_)
 cases hb:b hint with
 | true=>exact FF ask mono hQ hh hb
 | false=>exact FE ask mono hQ hh hb
end
set_option linter.unusedSectionVars false
open PySem PyProof.Rows
noncomputable def ut:Array Keyed->Array Keyed->StateT SortSt Sem (Array Keyed):=sortPriv% PySem.Builtin.mergeLo
noncomputable def eV:Nat->StateT SortSt Sem Unit:=sortPriv% PySem.Builtin.setMinGallop
theorem eB (g:Nat):eV g=modify λs=>SortSt.mk' (kindOf s) (arrOf s) (pendingOf s) g (failedOf s):=rfl
abbrev kt (a b out:Array Keyed) (ia ib:Nat):=out++a.extract ia a.size++b.extract ib b.size
abbrev ug (a b out:Array Keyed) (ia ib:Nat):=out++b.extract ib b.size++a.extract ia a.size
section
variable {lt  : Keyed->Keyed->Bool}
theorem Ho.trans (h:Ho lt) {x y z:Keyed} (a:Le lt x y) (b:Le lt y z):Le lt x z:=h.ntr b a
theorem Ho.of_lt (h:Ho lt) {x y:Keyed} (a:lt x y=true):Le lt x y:=h.asym a
structure ML (lt:Keyed->Keyed->Bool) (w o u v:List Keyed):Prop where
 so:o.Pairwise (Le lt)
 su:u.Pairwise (Le lt)
 sv:v.Pairwise (Le lt)
 bu:∀x∈o,∀y∈u,Le lt x y
 bv:∀x∈o,∀y∈v,Le lt x y
 pm:(o++(u++v)).Perm w
theorem ML.left {w o u1 u2 v:List Keyed} (h:ML lt w o (u1++u2) v) (hx:∀x∈u1,∀y∈v,Le lt x y):ML lt w (o++u1) u2 v:=by
 obtain ⟨s1,s2,s3⟩:=aan.mp h.su
 refine ⟨aan.mpr ⟨h.so,s1,λx a y b=>h.bu x a y (aaD _ b)⟩,s2,h.sv,λx a y b=> ?_,λx a y b=> ?_,?_⟩
 ·rcases aap.mp a with a | a
  ·exact h.bu x a y (aau _ b)
  ·exact s3 x a y b
 ·rcases aap.mp a with a | a
  ·exact h.bv x a y b
  ·exact hx x a y b
 ·haveI:=h.pm
  simpa [aae] using this
theorem ML.right {w o u v1 v2:List Keyed} (h:ML lt w o u (v1++v2)) (hx:∀x∈v1,∀y∈u,Le lt x y):ML lt w (o++v1) u v2:=by
 obtain ⟨s1,s2,s3⟩:=aan.mp h.sv
 refine ⟨aan.mpr ⟨h.so,s1,λx a y b=>h.bv x a y (aaD _ b)⟩,h.su,s2,λx a y b=> ?_,λx a y b=> ?_,?_⟩
 ·rcases aap.mp a with a | a
  ·exact h.bu x a y b
  ·exact hx x a y b
 ·rcases aap.mp a with a | a
  ·exact h.bv x a y (aau _ b)
  ·exact s3 x a y b
 ·refine List.Perm.trans ?_ h.pm
  rw [aae]
  refine List.Perm.append_left _ ?_
  rw [<- aae,<- aae]
  exact List.Perm.append_right _ List.perm_append_comm
theorem ML.endL {w o u v:List Keyed} (h:ML lt w o u v) (hx:∀x∈u,∀y∈v,Le lt x y):qF lt w (o++u++v) :=
 ⟨aan.mpr ⟨aan.mpr ⟨h.so,h.su,h.bu⟩,h.sv,λx a y b=>(aap.mp a).elim (λa=>h.bv x a y b) λa=>hx x a y b⟩,by rw [aae];exact h.pm⟩
theorem ML.endR {w o u v:List Keyed} (h:ML lt w o u v) (hx:∀x∈v,∀y∈u,Le lt x y):qF lt w (o++v++u) :=
 ⟨aan.mpr ⟨aan.mpr ⟨h.so,h.sv,h.bv⟩,h.su,λx a y b=>(aap.mp a).elim (λa=>h.bu x a y b) λa=>hx x a y b⟩,by rw [aae];exact (List.Perm.append_left _ List.perm_append_comm).trans h.pm⟩
theorem dS (a:Array Keyed) (i j:Nat):(a.extract i j).toList=(a.toList.drop i).take (j-i):=by
 rw [Array.toList_extract]
theorem tj (a:Array Keyed) (i:Nat):(a.extract i a.size).toList=a.toList.drop i:=by
 rw [dS]
 exact List.take_of_length_le (by rw [List.length_drop,aa5];exact aaK _)
theorem jg {a:Array Keyed} {i:Nat} {x:Keyed} (h:a[i]? = some x):a.toList.drop i=x::a.toList.drop (i+1):=by
 rw [<- aaB] at h
 obtain ⟨hi,e⟩:=aaa.mp h
 rw [List.drop_eq_getElem_cons hi,e]
structure MP (lt:Keyed->Keyed->Bool) (ok:Keyed->Prop) (a b:Array Keyed):Prop where
 sa:a.toList.Pairwise (Le lt)
 sb:b.toList.Pairwise (Le lt)
 oa:∀x∈a.toList,ok x
 ob:∀x∈b.toList,ok x
 last:∀x∈b.toList,∀y∈a.toList.drop (a.size-1),Le lt x y
def Rn (lt:Keyed->Keyed->Bool) (a b out:Array Keyed) (ia ib:Nat):Prop:=ML lt (a.toList++b.toList) out.toList (a.toList.drop ia) (b.toList.drop ib)
variable {a b out:Array Keyed} {ia ib k:Nat}
theorem Rn.done (h:Rn lt a b out ia ib) (hb:b.size<=ib\/a.size<=ia):qF lt (a.toList++b.toList) (kt a b out ia ib).toList:=by
 rw [aa6,aa6,tj,tj]
 refine ML.endL h λx hx y hy=> ?_
 rcases hb with hb | hb
 ·rw [List.drop_eq_nil_of_le (by rw [aa5];exact hb)] at hy;cases hy
 ·rw [List.drop_eq_nil_of_le (by rw [aa5];exact hb)] at hx;cases hx
theorem Rn.last (p:MP lt ok a b) (h:Rn lt a b out ia ib) (ha:ia+1=a.size):qF lt (a.toList++b.toList) (ug a b out ia ib).toList:=by
 rw [aa6,aa6,tj,tj]
 refine ML.endR h λx hx y hy=>p.last x (List.mem_of_mem_drop hx) y ?_
 rw [show a.size-1=ia from aag (aK 0x201192c211190c312 [_,_,_] rfl ha (aab (aK 0x11901190c211 [_,_] rfl ha))) (aK 0x200192c1011190c212 [_,_,_] rfl ha (sA _ _))];exact hy
theorem Rn.pushB {x:Keyed} (h:Rn lt a b out ia ib) (hx:b[ib]? = some x) (hl:∀y∈a.toList.drop ia,Le lt x y):Rn lt a b (out.push x) ia (ib+1):=by
 unfold Rn at h ⊢
 rw [jg hx] at h
 rw [Array.toList_push]
 exact ML.right (v1:=[x]) h λy hy=>by rw [aaj.mp hy];exact hl
theorem Rn.pushA {x:Keyed} (h:Rn lt a b out ia ib) (hx:a[ia]? = some x) (hl:∀y∈b.toList.drop ib,Le lt x y):Rn lt a b (out.push x) (ia+1) ib:=by
 unfold Rn at h ⊢
 rw [jg hx] at h
 rw [Array.toList_push]
 exact ML.left (u1:=[x]) h λy hy=>by rw [aaj.mp hy];exact hl
theorem Rn.manyA (h:Rn lt a b out ia ib) (hl:∀x∈(a.toList.drop ia).take k,∀y∈b.toList.drop ib,Le lt x y):Rn lt a b (out++a.extract ia (ia+k)) (ia+k) ib:=by
 unfold Rn at h ⊢
 rw [aa6,dS,aaC]
 rw [<- aaS k (a.toList.drop ia),List.drop_drop] at h
 exact ML.left h hl
theorem Rn.manyB (h:Rn lt a b out ia ib) (hl:∀x∈(b.toList.drop ib).take k,∀y∈a.toList.drop ia,Le lt x y):Rn lt a b (out++b.extract ib (ib+k)) ia (ib+k):=by
 unfold Rn at h ⊢
 rw [aa6,dS,aaC]
 rw [<- aaS k (b.toList.drop ib),List.drop_drop] at h
 exact ML.right h hl
end
open PySem PyProof.Rows
structure je (st st':SortSt):Prop where
 k:kindOf st'=kindOf st
 a:arrOf st'=arrOf st
 p:pendingOf st'=pendingOf st
 f:failedOf st'=failedOf st
theorem je.refl (st:SortSt):je st st:=⟨rfl,rfl,rfl,rfl⟩
theorem je.gal {st st':SortSt} (h:je st st') (g:Nat):je st (SortSt.mk' (kindOf st') (arrOf st') (pendingOf st') g (failedOf st')):=⟨h.k,h.a,h.p,h.f⟩
section
variable {a b:Array Keyed}
theorem er {x:Array Keyed} {i:Nat} (h:i<x.size):∃v,x[i]? = some v/\v∈x.toList:=⟨x[i],Array.getElem?_eq_getElem h,by simp⟩
theorem rW {x:Array Keyed} {i j:Nat} {v:Keyed} (h:x[j]? = some v) (hij:i<=j):v∈x.toList.drop i:=by
 rw [<- aaB] at h
 refine aaE (i:=j-i) ?_
 rw [List.getElem?_drop,Nat.add_sub_cancel' hij];exact h
theorem kQ {x:Array Keyed} (p:x.toList.Pairwise (Le lt)) {i:Nat} {v:Keyed} (h:x[i]? = some v):∀y∈x.toList.drop (i+1),Le lt v y:=by
 haveI:=p.drop (i:=i)
 rw [jg h] at this
 exact (aaI.mp this).1
theorem lt_size {x:Array Keyed} {i:Nat} {v:Keyed} (h:x[i]? = some v):i<x.size:=(Array.getElem?_eq_some_iff.mp h).1
theorem jb {x:Array Keyed} {i k:Nat} {v:Keyed} (h:v∈(x.toList.drop i).take k):∃j,j<k/\x[i+j]? = some v:=by
 obtain ⟨j,hj,e⟩:=List.getElem_of_mem h
 rw [abc] at hj
 refine ⟨j,aK 0x201210110112 [_,_,_] rfl hj (Nat.min_le_left _ _),?_⟩
 rw [List.getElem_take,List.getElem_drop] at e
 rw [<- aaB,<- e]
 exact aal _
theorem y5 {x:Array Keyed} {i:Nat} {v:Keyed} (h:v∈x.toList.drop i):∃j,i<=j/\x[j]? = some v:=by
 obtain ⟨j,hj,e⟩:=List.getElem_of_mem h
 refine ⟨i+j,aaQ _ _,?_⟩
 rw [List.getElem_drop] at e
 rw [<- aaB,<- e]
 exact aal _
theorem Fk (h:Ho lt) {x:Array Keyed} (p:x.toList.Pairwise (Le lt)) {i j:Nat} {u v:Keyed} (hij:i<=j) (hu:x[i]? = some u) (hv:x[j]? = some v):i=j\/Le lt u v:=by
 rcases Nat.lt_or_ge i j with hlt | hge
 ·exact .inr (kQ p hu v (rW hv hlt))
 ·exact .inl (aag (hij) (hge))
theorem FG (an:qG (model prog w) A E s lt ok κ) {x:Array Keyed} (p:x.toList.Pairwise (Le lt)) (ox:∀v∈x.toList,ok v) {key:Keyed} (okk:ok key) {st:SortSt} (hk:kindOf st=κ) {i n hint:Nat} (hn:i+n<=x.size) (hh:hint<n) {Q:Option Nat->SortSt->Prop}
  (hQ:∀k,k<=n->(∀j v,i<=j->j<i+k->x[j]? = some v->Le lt v key)->(∀j v,i+k<=j->j<i+n->x[j]? = some v->lt key v=true)->Q (some k) st) :
  wpS (model prog w) A E s (fc false key x i n hint) Q st:=by
 have hf:∀j,j<n->x[i+j]? = some ((x[i+j]?).getD key)/\ok ((x[i+j]?).getD key):=λj hj=>by
  obtain ⟨v,e,m⟩:=er (x:=x) (i:=i+j) (aK 0x230c11311210c012 [_,_,_,_] rfl hn hj)
  rw [e];exact ⟨rfl,ox v m⟩
 refine lD an (f:=λj=>(x[i+j]?).getD key) hk okk hf hh (λj l hjl hl hb=> ?_) λk hkn h1 h2=>hQ k hkn (λj v hj hj2 hv=> ?_) λj v hj hj2 hv=> ?_
 ·haveI e1:=(hf j (aK 0x201211110012 [_,_,_] rfl hjl hl)).1
  haveI e2:=(hf l hl).1
  have hb':(!lt key ((x[i+l]?).getD key))=true:=hb
  show (!lt key ((x[i+j]?).getD key))=true
  rcases Fk an.lin p (aK 0x12c02c010011 [_,_,_] rfl hjl) e1 e2 with h | h
  ·rw [show j=l from aag (aK 0x21020c10c211 [_,_,_] rfl h) (aK 0x12020c10c311 [_,_,_] rfl h)];exact hb'
  ·rw [Bool.not_eq_true'] at hb' ⊢
   exact an.lin.trans h hb'
 ·haveI:=h1 (j-i) (aK 0x231013c2121c0112 [_,_,_,_] rfl hj2 (aab hj))
  haveI e:i+(j-i)=j:=aag (aK 0x201c0210c211 [_,_,_] rfl (aab hj)) (aK 0x12c0021c0011 [_,_,_] rfl (sA _ _))
  rw [e,hv] at this
  haveI:(!lt key v)=true:=this
  rw [Bool.not_eq_true'] at this;exact this
 ·haveI:=h2 (j-i) (aK 0x31003c201210c012 [_,_,_,_] rfl hj (sA _ _)) (aK 0x231013c2121c0112 [_,_,_,_] rfl hj2 (aab (aK 0x200210c011 [_,_,_] rfl hj)))
  haveI e:i+(j-i)=j:=aag (aK 0x201c0210c211 [_,_,_] rfl (aab (aK 0x200210c011 [_,_,_] rfl hj))) (aK 0x12c0021c0011 [_,_,_] rfl (sA _ _))
  rw [e,hv] at this
  haveI:(!lt key v)=false:=this
  rw [Bool.not_eq_false'] at this;exact this
theorem FH (an:qG (model prog w) A E s lt ok κ) {x:Array Keyed} (p:x.toList.Pairwise (Le lt)) (ox:∀v∈x.toList,ok v) {key:Keyed} (okk:ok key) {st:SortSt} (hk:kindOf st=κ) {i n hint:Nat} (hn:i+n<=x.size) (hh:hint<n) {Q:Option Nat->SortSt->Prop}
  (hQ:∀k,k<=n->(∀j v,i<=j->j<i+k->x[j]? = some v->lt v key=true)->(∀j v,i+k<=j->j<i+n->x[j]? = some v->Le lt key v)->Q (some k) st) :
  wpS (model prog w) A E s (fc true key x i n hint) Q st:=by
 have hf:∀j,j<n->x[i+j]? = some ((x[i+j]?).getD key)/\ok ((x[i+j]?).getD key):=λj hj=>by
  obtain ⟨v,e,m⟩:=er (x:=x) (i:=i+j) (aK 0x230c11311210c012 [_,_,_,_] rfl hn hj)
  rw [e];exact ⟨rfl,ox v m⟩
 refine lD an (f:=λj=>(x[i+j]?).getD key) hk okk hf hh (λj l hjl hl hb=> ?_) λk hkn h1 h2=>hQ k hkn (λj v hj hj2 hv=> ?_) λj v hj hj2 hv=> ?_
 ·haveI e1:=(hf j (aK 0x201211110012 [_,_,_] rfl hjl hl)).1
  haveI e2:=(hf l hl).1
  have hb':lt ((x[i+l]?).getD key) key=true:=hb
  show lt ((x[i+j]?).getD key) key=true
  rcases Fk an.lin p (aK 0x12c02c010011 [_,_,_] rfl hjl) e1 e2 with h | h
  ·rw [show j=l from aag (aK 0x21020c10c211 [_,_,_] rfl h) (aK 0x12020c10c311 [_,_,_] rfl h)];exact hb'
  ·cases e:lt ((x[i+j]?).getD key) key with
   | true=>rfl
   | false =>
    have:=an.lin.ntr h e
    rw [hb'] at this;cases this
 ·have:=h1 (j-i) (aK 0x231013c2121c0112 [_,_,_,_] rfl hj2 (aab hj))
  haveI e:i+(j-i)=j:=aag (aK 0x201c0210c211 [_,_,_] rfl (aab hj)) (aK 0x12c0021c0011 [_,_,_] rfl (sA _ _))
  rw [e,hv] at this
  exact this
 ·have:=h2 (j-i) (aK 0x31003c201210c012 [_,_,_,_] rfl hj (sA _ _)) (aK 0x231013c2121c0112 [_,_,_,_] rfl hj2 (aab (aK 0x200210c011 [_,_,_] rfl hj)))
  haveI e:i+(j-i)=j:=aag (aK 0x201c0210c211 [_,_,_] rfl (aab (aK 0x200210c011 [_,_,_] rfl hj))) (aK 0x12c0021c0011 [_,_,_] rfl (sA _ _))
  rw [e,hv] at this
  exact this
end
open PySem PyProof.Rows
theorem fx {σ α:Type} {c:Prop} [Decidable c] {m n:StateT σ Sem α} {Q:α->σ->Prop} {st:σ} (hc:c) (h:wpS M A E s m Q st):wpS M A E s (if c then m else n) Q st:=by rw [if_pos hc];exact h
theorem d8 {σ α:Type} {c:Prop} [Decidable c] {m n:StateT σ Sem α} {Q:α->σ->Prop} {st:σ} (hc:¬c) (h:wpS M A E s n Q st):wpS M A E s (if c then m else n) Q st:=by rw [if_neg hc];exact h
abbrev LS:=Option (Array Keyed)×Array Keyed×Nat×Nat×Nat×Nat×Nat
noncomputable def Gg (a b out:Array Keyed) (ia ib mg ac bc:Nat):StateT SortSt Sem (ForInStep LS):=do
 let d <- elem' a ia
 if (ia+1+1==a.size)=true then pure (ForInStep.done (some (ug a b (out.push d) (ia+1) ib),out.push d,ia+1,ib,mg,ac,bc))
 else if (decide (ac<7)&&decide (bc<7))=true then pure (ForInStep.done (none,out.push d,ia+1,ib,mg,ac,bc))
 else pure (ForInStep.yield (none,out.push d,ia+1,ib,mg,ac,bc))
noncomputable def Gf (a b out:Array Keyed) (ia ib mg ac bc:Nat):StateT SortSt Sem (ForInStep LS):=do
 let d <- elem' b ib
 if (ib+1==b.size)=true then pure (ForInStep.done (some (kt a b (out.push d) ia (ib+1)),out.push d,ia,ib+1,mg,ac,bc))
 else do
  let e <- elem' a ia
  let x <- fc true e b (ib+1) (b.size-(ib+1)) 0
  match x with
  | some k =>
   if k>0 then
    if (ib+1+k==b.size)=true then pure (ForInStep.done (some (kt a b (out.push d++b.extract (ib+1) (ib+1+k)) ia (ib+1+k)),out.push d++b.extract (ib+1) (ib+1+k),ia,ib+1+k,mg,ac,k))
    else Gg a b (out.push d++b.extract (ib+1) (ib+1+k)) ia (ib+1+k) mg ac k
   else Gg a b (out.push d) ia (ib+1) mg ac k
  | _=>pure (ForInStep.done (some (kt a b (out.push d) ia (ib+1)),out.push d,ia,ib+1,mg,ac,bc))
noncomputable def EC (a b out:Array Keyed) (ia ib mg ac bc:Nat):StateT SortSt Sem (ForInStep LS):=do
 eV mg
 let d <- elem' b ib
 let x <- fc false d a ia (a.size-ia) 0
 match x with
 | some k =>
  if k>0 then
   if (ia+k+1==a.size)=true then pure (ForInStep.done (some (ug a b (out++a.extract ia (ia+k)) (ia+k) ib),out++a.extract ia (ia+k),ia+k,ib,mg,k,bc))
   else if (ia+k==a.size)=true then pure (ForInStep.done (some (kt a b (out++a.extract ia (ia+k)) (ia+k) ib),out++a.extract ia (ia+k),ia+k,ib,mg,k,bc))
   else Gf a b (out++a.extract ia (ia+k)) (ia+k) ib mg k bc
  else Gf a b out ia ib mg k bc
 | _=>pure (ForInStep.done (some (kt a b out ia ib),out,ia,ib,mg,ac,bc))
abbrev Bz (β:Type):=Option (Array Keyed)×Array Keyed×Nat×Nat×β
noncomputable def Jh (a b:Array Keyed) (mg:Nat) (out:Array Keyed) (ia ib ac bc:Nat):StateT SortSt Sem (ForInStep (Bz (Nat×Nat))):=do
 let y <- elem' b ib
 let x <- elem' a ia
 let r <- lt' y x
 match r with
 | some w =>
  if w=true then do
   let d <- elem' b ib
   if (ib+1==b.size)=true then pure (.done (some (kt a b (out.push d) ia (ib+1)),out.push d,ia,ib+1,0,bc+1))
   else if bc+1>=mg then pure (.done (none,out.push d,ia,ib+1,0,bc+1)) else pure (.yield (none,out.push d,ia,ib+1,0,bc+1))
  else do
   let d <- elem' a ia
   if (ia+1+1==a.size)=true then pure (.done (some (ug a b (out.push d) (ia+1) ib),out.push d,ia+1,ib,ac+1,0))
   else if ac+1>=mg then pure (.done (none,out.push d,ia+1,ib,ac+1,0)) else pure (.yield (none,out.push d,ia+1,ib,ac+1,0))
 | _=>pure (.done (some (kt a b out ia ib),out,ia,ib,ac,bc))
noncomputable def HY (a b:Array Keyed) (c:LS):StateT SortSt Sem (ForInStep LS) :=
 if c.2.2.2.2.1>1 then EC a b c.2.1 c.2.2.1 c.2.2.2.1 (c.2.2.2.2.1-1) c.2.2.2.2.2.1 c.2.2.2.2.2.2 else EC a b c.2.1 c.2.2.1 c.2.2.2.1 c.2.2.2.2.1 c.2.2.2.2.2.1 c.2.2.2.2.2.2
noncomputable def JQ (c:LS):StateT SortSt Sem (ForInStep (Bz Nat)) :=
 match c.1 with
 | some r=>pure (.done (some r,c.2.1,c.2.2.1,c.2.2.2.1,c.2.2.2.2.1))
 | none=>do
  eV (c.2.2.2.2.1+1)
  pure (.yield (none,c.2.1,c.2.2.1,c.2.2.2.1,c.2.2.2.2.1+1))
noncomputable def JP (a b:Array Keyed) (mg:Nat) (c:Bz (Nat×Nat)):StateT SortSt Sem (ForInStep (Bz Nat)) :=
 match c.1 with
 | some r=>pure (.done (some r,c.2.1,c.2.2.1,c.2.2.2.1,mg))
 | none=>do
  rule "list.sort.gallop"
  let c2 <- forIn [0:a.size+b.size] ((none,c.2.1,c.2.2.1,c.2.2.2.1,mg+1,c.2.2.2.2.1,c.2.2.2.2.2):LS) (λ_=>HY a b)
  JQ c2
noncomputable def J9 (a b:Array Keyed) (c:Bz Nat):StateT SortSt Sem (ForInStep (Bz Nat)):=do
 let c1 <- forIn [0:a.size+b.size] ((none,c.2.1,c.2.2.1,c.2.2.2.1,0,0):Bz (Nat×Nat)) (λ_ d=>Jh a b c.2.2.2.2 d.2.1 d.2.2.1 d.2.2.2.1 d.2.2.2.2.1 d.2.2.2.2.2)
 JP a b c.2.2.2.2 c1
noncomputable def J7 (c:Bz Nat):StateT SortSt Sem (Array Keyed) :=
 match c.1 with
 | some r=>pure r
 | none=>unsupported "internal:list.sort.merge-bound"
noncomputable def J8 (a b:Array Keyed) (d:Keyed):StateT SortSt Sem (Array Keyed) :=
 if (1==b.size)=true then pure (kt a b #[d] 0 1)
 else if (0+1==a.size)=true then pure (ug a b #[d] 0 1)
 else do
  let st <- get
  let c <- forIn [0:a.size+b.size] ((none,#[d],0,1,gallopOf st):Bz Nat) (λ_=>J9 a b)
  J7 c
theorem A2 (a b:Array Keyed):ut a b=(do
 rule "list.sort.merge-lo"
 let d <- elem' b 0
 J8 a b d):=by kernel_rfl
section
variable {a b:Array Keyed}
variable (an:qG (model prog w) A E s lt ok κ) (p:MP lt ok a b) {st:SortSt} {K:ForInStep LS->SortSt->Prop} {B:Nat}
 (kR:∀r c st',je st st'->qF lt (a.toList++b.toList) (Array.toList r)->c.1=some r->K (.done c) st')
 (kN:∀out ia ib mg ac bc st',je st st'->Rn lt a b out ia ib->ia+1<a.size->ib<b.size->B<=ia+ib->K (.done (none,out,ia,ib,mg,ac,bc)) st'/\K (.yield (none,out,ia,ib,mg,ac,bc)) st')
include an p kR kN
theorem At {out:Array Keyed} {ia ib mg ac bc:Nat} {st':SortSt} (S:je st st') (h:Rn lt a b out ia ib) (ha:ia+1<a.size) (hb:ib<b.size) {va:Keyed} (ea:a[ia]? = some va) (hx:∀y∈b.toList.drop ib,Le lt va y) (hB:B<=ia+ib+1) :
  wpS (model prog w) A E s (Gg a b out ia ib mg ac bc) K st':=by
 unfold Gg
 refine wpS_bind (bF ea ?_)
 have h':=h.pushA ea hx
 by_cases e:ia+1+1=a.size
 ·rw [if_pos (beq_iff_eq.mpr e)]
  exact wpS_pure (kR _ _ _ S (h'.last p e) rfl)
 ·rw [if_neg (λh=>e (beq_iff_eq.mp h))]
  have:=kN (out.push va) (ia+1) ib mg ac bc st' S h' ((aat e).elim (λy2=>y2) (λy2=>cu 0x119190cc119190cc1111190c122 ha y2)) hb (aK 0x2191cc001921cc0011 [_,_,_] rfl hB)
  split
  ·exact wpS_pure this.1
  ·exact wpS_pure this.2
theorem As {out:Array Keyed} {ia ib mg ac bc:Nat} {st':SortSt} (hk:kindOf st=κ) (S:je st st') (h:Rn lt a b out ia ib) (ha:ia+1<a.size) (hb:ib<b.size) {vb:Keyed} (eb:b[ib]? = some vb) (hx:∀y∈a.toList.drop ia,Le lt vb y) (hB:B<=ia+ib+2) :
  wpS (model prog w) A E s (Gf a b out ia ib mg ac bc) K st':=by
 unfold Gf
 refine wpS_bind (bF eb ?_)
 have h':=h.pushB eb hx
 by_cases e:ib+1=b.size
 ·rw [if_pos (beq_iff_eq.mpr e)]
  exact wpS_pure (kR _ _ _ S (h'.done (.inl (aK 0x190c101190c311 [_,_] rfl e))) rfl)
 ·rw [if_neg (λh=>e (beq_iff_eq.mp h))]
  obtain ⟨va,ea,ma⟩:=er (x:=a) (i:=ia) (aK 0x1011190c111 [_,_] rfl ha)
  refine wpS_bind (bF ea (wpS_bind (FH an p.sb p.ob (p.oa _ ma) (S.k.trans hk) (by exact aK 0x20191cc02191c0c211 [_,_,_] rfl (aab (aK 0x1190c010111 [_,_] rfl hb))) ((aat e).elim (λy2=>lh 0x2091190c2c1011190c112 y2 (sA _ _)) (λy2=>lh 0x2091190c11110112 hb y2)) λk hkn h1 h2=> ?_)))
  have many:∀x∈(b.toList.drop (ib+1)).take k,∀y∈a.toList.drop ia,Le lt x y:=λx hx y hy=>by
   obtain ⟨j,hj,ej⟩:=jb hx
   have hlt:Le lt x va:=an.lin.of_lt (h1 _ _ (aK 0x1190cc190c00 [_,_] rfl) (aK 0x1192cc0192cc110111 [_,_,_] rfl hj) ej)
   rw [jg ea] at hy
   rcases aai.mp hy with rfl | hy
   ·exact hlt
   ·exact an.lin.trans hlt (kQ p.sa ea y hy)
  have rest:∀y∈b.toList.drop (ib+1+k),Le lt va y:=λy hy=>by
   obtain ⟨j,hj,ej⟩:=y5 hy
   haveI:=lt_size ej
   exact h2 j y hj (aK 0x2193cc01193c2c10110112 [_,_,_,_] rfl this (sA _ _)) ej
  dsimp only
  by_cases hk0:k>0
  ·rw [if_pos hk0]
   have h'':=h'.manyB many
   by_cases e2:ib+1+k=b.size
   ·rw [if_pos (beq_iff_eq.mpr e2)]
    exact wpS_pure (kR _ _ _ S (h''.done (.inl (aK 0x1190cc2021190cc311 [_,_,_] rfl e2))) rfl)
   ·rw [if_neg (λh=>e2 (beq_iff_eq.mp h))]
    exact At an p kR kN S h'' ha ((aat e2).elim (λy2=>y2) (λy2=>vF 0x20193cc12193c1c220193cc21110023 hkn y2 (aab (cu 0x1190c010111 hb)))) ea rest (by exact aK 0x193192cc1cc002921cc0011 [_,_,_,_] rfl hB)
  ·rw [if_neg hk0]
   obtain rfl:k=0:=aag (aK 0x900009511 [_] rfl hk0) (aK 0x900 [_] rfl)
   exact At an p kR kN S h' ha ((aat e).elim (λy2=>y2) (λy2=>cu 0x1190c1190c11110122 hb y2)) ea rest (aK 0x19192c1cc002921cc0011 [_,_,_] rfl hB)
theorem FN {out:Array Keyed} {ia ib mg ac bc:Nat} {st':SortSt} (hk:kindOf st=κ) (S:je st st') (h:Rn lt a b out ia ib) (ha:ia+1<a.size) (hb:ib<b.size) (hB:B<=ia+ib+2) :
  wpS (model prog w) A E s (EC a b out ia ib mg ac bc) K st':=by
 unfold EC
 rw [eB]
 refine wpS_bind (wpS_modify ?_)
 have S':=S.gal mg
 obtain ⟨vb,eb,mb⟩:=er (x:=b) (i:=ib) hb
 refine wpS_bind (bF eb (wpS_bind (FG an p.sa p.oa (p.ob _ mb) (S'.k.trans hk) (by exact aK 0x201c0210c211 [_,_,_] rfl (aab (aK 0x1001190c111 [_,_] rfl ha))) (Nat.sub_pos_of_lt (Nat.lt_of_succ_lt ha)) λk hkn h1 h2=> ?_)))
 have many:∀x∈(a.toList.drop ia).take k,∀y∈b.toList.drop ib,Le lt x y:=λx hx y hy=>by
  obtain ⟨j,hj,ej⟩:=jb hx
  have hle:Le lt x vb:=h1 _ _ (aK 0x10c000 [_,_] rfl) (aK 0x12c02c110111 [_,_,_] rfl hj) ej
  rw [jg eb] at hy
  rcases aai.mp hy with rfl | hy
  ·exact hle
  ·exact an.lin.trans hle (kQ p.sb eb y hy)
 have rest:∀y∈a.toList.drop (ia+k),Le lt vb y:=λy hy=>by
  obtain ⟨j,hj,ej⟩:=y5 hy
  haveI:=lt_size ej
  exact an.lin.of_lt (h2 j y hj (aK 0x23c0132c10110112 [_,_,_,_] rfl this (sA _ _)) ej)
 dsimp only
 by_cases hk0:k>0
 ·rw [if_pos hk0]
  have h'':=h.manyA many
  by_cases e1:ia+k+1=a.size
  ·rw [if_pos (beq_iff_eq.mpr e1)]
   exact wpS_pure (kR _ _ _ S' (h''.last p e1) rfl)
  ·rw [if_neg (λh=>e1 (beq_iff_eq.mp h))]
   by_cases e2:ia+k=a.size
   ·rw [if_pos (beq_iff_eq.mpr e2)]
    exact wpS_pure (kR _ _ _ S' (h''.done (.inr (aK 0x10c20210c311 [_,_,_] rfl e2))) rfl)
   ·rw [if_neg (λh=>e2 (beq_iff_eq.mp h))]
    exact As an p kR kN hk S' h'' ((aat e1).elim (λy2=>y2) (λy2=>(aat e2).elim (λy1=>lh 0x1921cc1021c121921cc0112 y2 y1) (λy1=>vF 0x21903cc1231c2303c21210033 hkn y1 (aab (cu 0x1001190c111 ha))))) hb eb rest (by exact aK 0x29231ccc002921cc0011 [_,_,_,_] rfl hB)
 ·rw [if_neg hk0]
  obtain rfl:k=0:=aag (aK 0x900009511 [_] rfl hk0) (aK 0x900 [_] rfl)
  exact As an p kR kN hk S' h ha hb eb rest (hB)
end
section
variable {a b:Array Keyed}
structure Lv (lt:Keyed->Keyed->Bool) (a b:Array Keyed) (N x:Nat) (out:Array Keyed) (ia ib:Nat):Prop where
 r:Rn lt a b out ia ib
 a1:ia+1<a.size
 b1:ib<b.size
 s:x+N<=ia+ib
def Il {β:Type} (lt:Keyed->Keyed->Bool) (a b:Array Keyed) (N x:Nat) (c:Bz β):Prop:=c.1=none/\Lv lt a b N x c.2.1 c.2.2.1 c.2.2.2.1
def Dl {β:Type} (lt:Keyed->Keyed->Bool) (a b:Array Keyed) (c:Bz β):Prop:= ∃r,c.1=some r/\qF lt (a.toList++b.toList) r.toList
theorem Lv.no {N ia ib:Nat} {out:Array Keyed} (h:Lv lt a b N (max 0 (a.size+b.size)) out ia ib):False:=by
 haveI s:=h.s
 rw [Nat.zero_max] at s
 exact absurd (aao (aaQ _ N) s) (Nat.not_le.mpr (Nat.add_lt_add (Nat.lt_of_succ_lt h.a1) h.b1))
section
variable (an:qG (model prog w) A E s lt ok κ) (p:MP lt ok a b) {st:SortSt} (hk:kindOf st=κ)
include an p hk
theorem FL {st':SortSt} (S:je st st') {N x mg ia ib ac bc:Nat} {out:Array Keyed} (h:Lv lt a b N x out ia ib) {K:ForInStep (Bz (Nat×Nat))->SortSt->Prop} (kD:∀c,Dl lt a b c\/Il lt a b N 1 c->K (.done c) st') (kY:∀c,Il lt a b N (x+1) c->K (.yield c) st') :
  wpS (model prog w) A E s (Jh a b mg out ia ib ac bc) K st':=by
 have h1:=h.a1
 have h2:=h.b1
 have hs:=h.s
 refine bW λY9 y9=> ?_
 obtain ⟨va,ea,ma⟩:=er (x:=a) (i:=ia) (Nat.lt_of_succ_lt h1)
 obtain ⟨vb,eb,mb⟩:=er (x:=b) (i:=ib) h2
 refine y9 ?_
 refine wpS_bind (bF eb (wpS_bind (bF ea (wpS_bind (an.ask (p.ob _ mb) (p.oa _ ma) (S.k.trans hk) ?_)))))
 cases hl:lt vb va with
 | true =>
  refine fx rfl (wpS_bind (bF eb ?_))
  have h':=h.r.pushB eb λy hy=>by
   have hlt:=an.lin.of_lt hl
   rw [jg ea] at hy
   rcases aai.mp hy with rfl | hy
   ·exact hlt
   ·exact an.lin.trans hlt (kQ p.sa ea y hy)
  by_cases e:ib+1=b.size
  ·exact fx (beq_iff_eq.mpr e) (wpS_pure (kD _ (.inl ⟨_,rfl,h'.done (.inl (Nat.le_of_eq e.symm))⟩)))
  ·have v:∀ {x'},x'+N<=ia+(ib+1)->Lv lt a b N x' (out.push vb) ia (ib+1):=λg=>⟨h',h1,(aat e).elim (λy2=>y2) (λy2=>cu 0x1190c1190c11110122 h2 y2),g⟩
   refine d8 (λh=>e (beq_iff_eq.mp h)) ?_
   by_cases q:bc+1>=mg
   ·exact fx q (wpS_pure (kD _ (.inr ⟨rfl,v (aK 0x193c2c119c032c10c011 [_,_,_,_] rfl hs)⟩)))
   ·exact d8 q (wpS_pure (kY _ ⟨rfl,v (aK 0x193c2c1190cc032c10c011 [_,_,_,_] rfl hs)⟩))
 | false =>
  refine d8 aaF (wpS_bind (bF ea ?_))
  have h':=h.r.pushA ea λy hy=>by
   rw [jg eb] at hy
   rcases aai.mp hy with rfl | hy
   ·exact hl
   ·exact an.lin.trans hl (kQ p.sb eb y hy)
  by_cases e:ia+1+1=a.size
  ·exact fx (beq_iff_eq.mpr e) (wpS_pure (kD _ (.inl ⟨_,rfl,h'.last p e⟩)))
  ·have v:∀ {x'},x'+N<=ia+1+ib->Lv lt a b N x' (out.push va) (ia+1) ib:=λg=>⟨h',(aat e).elim (λy2=>y2) (λy2=>cu 0x119190cc119190cc1111190c122 h1 y2),h2,g⟩
   refine d8 (λh=>e (beq_iff_eq.mp h)) ?_
   by_cases q:ac+1>=mg
   ·exact fx q (wpS_pure (kD _ (.inr ⟨rfl,v (aK 0x3192cc119c032c10c011 [_,_,_,_] rfl hs)⟩)))
   ·exact d8 q (wpS_pure (kY _ ⟨rfl,v (aK 0x3192cc1190cc032c10c011 [_,_,_,_] rfl hs)⟩))
theorem FM {st':SortSt} (S:je st st') {N x:Nat} {c:LS} (h:Lv lt a b N x c.2.1 c.2.2.1 c.2.2.2.1) {K:ForInStep LS->SortSt->Prop} (kD:∀c st2,je st st2->Dl lt a b c\/Il lt a b N 0 c->K (.done c) st2) (kY:∀c st2,je st st2->Il lt a b N (x+1) c->K (.yield c) st2) :
  wpS (model prog w) A E s (HY a b c) K st':=by
 have key:∀(mg ac bc:Nat),wpS (model prog w) A E s (EC a b c.2.1 c.2.2.1 c.2.2.2.1 mg ac bc) K st':=λmg ac bc=>by
  have hs:=h.s
  exact FN an p (B:=c.2.2.1+c.2.2.2.1+2) (λr c st2 S' hr hc=>kD c st2 S' (.inl ⟨r,hc,hr⟩)) (λo i j mm u v st2 S' r1 r2 r3 r4=>⟨kD _ _ S' (.inr ⟨rfl,⟨r1,r2,r3,by dsimp only;exact aK 0x54c109c054c2932cc0132c10c012 [_,_,_,_,_,_] rfl hs r4⟩⟩),kY _ _ S' ⟨rfl,⟨r1,r2,r3,by dsimp only;exact aK 0x54c1190cc054c2932cc0132c10c012 [_,_,_,_,_,_] rfl hs r4⟩⟩⟩) hk S h.r h.a1 h.b1 (aaK _)
 unfold HY
 by_cases hm:c.2.2.2.2.1>1
 ·exact fx hm (key _ _ _)
 ·exact d8 hm (key _ _ _)
theorem GU {st':SortSt} (S:je st st') {x:Nat} {c:Bz Nat} (h:Lv lt a b 0 x c.2.1 c.2.2.1 c.2.2.2.1) {K:ForInStep (Bz Nat)->SortSt->Prop} (kD:∀c st2,je st st2->Dl lt a b c->K (.done c) st2) (kY:∀c st2,je st st2->Il lt a b 0 (x+1) c->K (.yield c) st2) :
  wpS (model prog w) A E s (J9 a b c) K st':=by
 haveI hs:=h.s
 refine wpS_bind (wpS_mono (wpS_forRange (I:=λx c1 st2=>st2=st'/\Il lt a b (c.2.2.1+c.2.2.2.1) x c1) (Q:=λc1 st2=>st2=st'/\(Dl lt a b c1\/Il lt a b (c.2.2.1+c.2.2.2.1) 1 c1)) ?_ (λ_ _ g=>g.2.2.no.elim) ⟨rfl,rfl,⟨h.r,h.a1,h.b1,Nat.le_of_eq (aa1 _)⟩⟩) λc1 st2 g=> ?_)
 ·rintro y d _ _ _ ⟨rfl,g⟩
  exact FL an p hk S g.2 (λ_ q=>⟨rfl,q⟩) λ_ q=>⟨rfl,q⟩
 rw [g.1]
 rcases g.2 with ⟨r,e,hr⟩ | ⟨e,v⟩
 ·unfold JP;rw [e];exact wpS_pure (kD _ _ S ⟨r,rfl,hr⟩)
 unfold JP;rw [e]
 haveI hs2:=v.s
 refine wpS_bind (wpS_lift (wpAny_rule ⟨rfl,?_⟩))
 refine wpS_bind (wpS_mono (wpS_forRange (I:=λx d st3=>je st st3/\Il lt a b (c1.2.2.1+c1.2.2.2.1) x d) (Q:=λd st3=>je st st3/\(Dl lt a b d\/Il lt a b (c1.2.2.1+c1.2.2.2.1) 0 d)) ?_ (λ_ _ g=>g.2.2.no.elim) ⟨S,rfl,⟨v.r,v.a1,v.b1,Nat.le_of_eq (aa1 _)⟩⟩) λd st3 g=> ?_)
 ·exact λy d st3 _ _ g=>FM an p hk g.1 g.2.2 (λ_ _ S q=>⟨S,q⟩) λ_ _ S q=>⟨S,q⟩
 rcases g.2 with ⟨r,e,hr⟩ | ⟨e,u⟩
 ·unfold JQ;rw [e];exact wpS_pure (kD _ _ g.1 ⟨r,rfl,hr⟩)
 ·haveI hs3:=u.s
  unfold JQ;rw [e,eB]
  exact wpS_bind (wpS_modify (wpS_pure (kY _ _ (g.1.gal _) ⟨rfl,⟨u.r,u.a1,u.b1,by dsimp only;exact aK 0x65c09190cc065c43c09c0143c21c19c0121c090c013 [_,_,_,_,_,_,_] rfl hs hs2 hs3⟩⟩)))
end
theorem Aw (an:qG (model prog w) A E s lt ok κ) (p:MP lt ok a b) {st:SortSt} (hk:kindOf st=κ) (h0:∀x y,b[0]? = some x->a[0]? = some y->lt x y=true) (ha:1<=a.size) (hb:1<=b.size) {Q:Array Keyed->SortSt->Prop}
  (hQ:∀r st',je st st'->qF lt (a.toList++b.toList) r.toList->Q r st'):wpS (model prog w) A E s (ut a b) Q st:=by
 obtain ⟨vb,eb,mb⟩:=er (x:=b) (i:=0) hb
 obtain ⟨va,ea,ma⟩:=er (x:=a) (i:=0) ha
 have R0:Rn lt a b #[vb] 0 1:=by
  haveI R00:Rn lt a b #[] 0 0:=⟨.nil,p.sa,p.sb,λ_ h=>(nomatch h),λ_ h=>(nomatch h),.refl _⟩
  refine R00.pushB eb λy hy=> ?_
  have hlt:=an.lin.of_lt (h0 vb va eb ea)
  rw [jg ea] at hy
  rcases aai.mp hy with rfl | hy
  ·exact hlt
  ·exact an.lin.trans hlt (kQ p.sa ea y hy)
 rw [A2]
 refine wpS_bind (wpS_lift (wpAny_rule ⟨rfl,wpS_bind (bF eb ?_)⟩))
 unfold J8
 by_cases e1:1=b.size
 ·exact fx (beq_iff_eq.mpr e1) (wpS_pure (hQ _ _ (je.refl _) (R0.done (.inl (Nat.le_of_eq e1.symm)))))
 refine d8 (λh=>e1 (beq_iff_eq.mp h)) ?_
 by_cases e2:0+1=a.size
 ·exact fx (beq_iff_eq.mpr e2) (wpS_pure (hQ _ _ (je.refl _) (R0.last p e2)))
 refine d8 (λh=>e2 (beq_iff_eq.mp h)) (wpS_bind (wpS_get (wpS_bind (wpS_mono (wpS_forRange (I:=λx c st'=>je st st'/\Il lt a b 0 x c) (Q:=λc st'=>je st st'/\Dl lt a b c) ?_ (λ_ _ g=>g.2.2.no.elim) ⟨je.refl _,rfl,⟨R0,by dsimp only;exact (aat e2).elim (λy2=>y2) (λy2=>b9 0x1909c11909c011019022 ha y2),by dsimp only;exact (aat e1).elim (λy2=>y2) (λy2=>b9 0x19119011019022 hb y2),Nat.zero_le _⟩⟩) λc st' g=> ?_))))
 ·exact λx c st' _ _ g=>GU an p hk g.1 g.2.2 (λ_ _ S q=>⟨S,q⟩) λ_ _ S q=>⟨S,q⟩
 ·obtain ⟨S,r,e,hr⟩:=g
  unfold J7;rw [e];exact wpS_pure (hQ r _ S hr)
end
open PySem PyProof.Rows
noncomputable def ur:Array Keyed->Array Keyed->StateT SortSt Sem (Array Keyed):=sortPriv% PySem.Builtin.mergeHi
abbrev kr (a b out:Array Keyed) (na nb:Nat):=a.extract 0 na++b.extract 0 nb++out.reverse
abbrev pK (a b out:Array Keyed) (na nb:Nat):=b.extract 0 nb++a.extract 0 na++out.reverse
section
structure Jw (lt:Keyed->Keyed->Bool) (ok:Keyed->Prop) (a b:Array Keyed):Prop where
 sa:a.toList.Pairwise (Le lt)
 sb:b.toList.Pairwise (Le lt)
 oa:∀x∈a.toList,ok x
 ob:∀x∈b.toList,ok x
 first:∀x∈b.toList.take 1,∀y∈a.toList,Le lt x y
def Rh (lt:Keyed->Keyed->Bool) (a b out:Array Keyed) (na nb:Nat):Prop:=ML (λx y=>lt y x) (a.toList++b.toList) out.toList (a.toList.take na).reverse (b.toList.take nb).reverse
variable {a b out:Array Keyed} {na nb k:Nat}
theorem F3 (a:Array Keyed) (n:Nat):(a.extract 0 n).toList=a.toList.take n:=by rw [dS,List.drop_zero,Nat.sub_zero]
theorem B1 {w c:List Keyed} (h:qF (λx y=>lt y x) w c):qF lt w c.reverse:=⟨List.pairwise_reverse.mpr h.1,(List.reverse_perm c).trans h.2⟩
theorem Rh.done (h:Rh lt a b out na nb) (hb:nb=0\/na=0):qF lt (a.toList++b.toList) (kr a b out na nb).toList:=by
 haveI:=B1 (ML.endR h λx hx y hy=>by
  rcases hb with rfl | rfl
  ·cases hx
  ·cases hy)
 rw [List.reverse_append,List.reverse_append,List.reverse_reverse,List.reverse_reverse,<- aae] at this
 rw [aa6,aa6,F3,F3,Array.toList_reverse];exact this
theorem Rh.first (p:Jw lt ok a b) (h:Rh lt a b out na nb) (hb:nb=1):qF lt (a.toList++b.toList) (pK a b out na nb).toList:=by
 subst hb
 haveI:=B1 (ML.endL h λx hx y hy=>p.first y (aax.mp hy) x (List.mem_of_mem_take (aax.mp hx)))
 rw [List.reverse_append,List.reverse_append,List.reverse_reverse,List.reverse_reverse,<- aae] at this
 rw [aa6,aa6,F3,F3,Array.toList_reverse];exact this
theorem nV {x:Array Keyed} {i:Nat} {v:Keyed} (h:x[i]? = some v):(x.toList.take (i+1)).reverse=v::(x.toList.take i).reverse:=by
 rw [<- aaB] at h
 rw [List.take_add_one,h,List.reverse_append];rfl
theorem Rh.pushB {x:Keyed} (h:Rh lt a b out na (nb+1)) (hx:b[nb]? = some x) (hl:∀y∈a.toList.take na,Le lt y x):Rh lt a b (out.push x) na nb:=by
 unfold Rh at h ⊢
 rw [nV hx] at h
 rw [Array.toList_push]
 exact ML.right (v1:=[x]) h λy hy z hz=>by rw [aaj.mp hy];exact hl z (aax.mp hz)
theorem Rh.pushA {x:Keyed} (h:Rh lt a b out (na+1) nb) (hx:a[na]? = some x) (hl:∀y∈b.toList.take nb,Le lt y x):Rh lt a b (out.push x) na nb:=by
 unfold Rh at h ⊢
 rw [nV hx] at h
 rw [Array.toList_push]
 exact ML.left (u1:=[x]) h λy hy z hz=>by rw [aaj.mp hy];exact hl z (aax.mp hz)
theorem vo {x:List Keyed} {k n:Nat} (h:k<=n):(x.take n).reverse=((x.drop k).take (n-k)).reverse++(x.take k).reverse:=by
 rw [<- List.reverse_append]
 congr 1
 rw [<- List.take_add,Nat.add_sub_cancel' h]
theorem Rh.manyA (h:Rh lt a b out na nb) (hk:k<=na) (hl:∀x∈(a.toList.drop k).take (na-k),∀y∈b.toList.take nb,Le lt y x):Rh lt a b (out++(a.extract k na).reverse) k nb:=by
 unfold Rh at h ⊢
 rw [aa6,Array.toList_reverse,dS]
 rw [vo hk] at h
 exact ML.left h λx hx y hy=>hl x (aax.mp hx) y (aax.mp hy)
theorem Rh.manyB (h:Rh lt a b out na nb) (hk:k<=nb) (hl:∀x∈(b.toList.drop k).take (nb-k),∀y∈a.toList.take na,Le lt y x):Rh lt a b (out++(b.extract k nb).reverse) na k:=by
 unfold Rh at h ⊢
 rw [aa6,Array.toList_reverse,dS]
 rw [vo hk] at h
 exact ML.right h λx hx y hy=>hl x (aax.mp hx) y (aax.mp hy)
theorem tw (h:Ho lt) {x:Array Keyed} (p:x.toList.Pairwise (Le lt)) {i:Nat} {v:Keyed} (hv:x[i]? = some v):∀y∈x.toList.take i,Le lt y v:=λy hy=>by
 obtain ⟨j,hj,e⟩:=jb (x:=x) (i:=0) (k:=i) (by simpa using hy)
 rw [aa1] at e
 exact kQ p e v (rW hv hj)
end
open PySem PyProof.Rows
abbrev HS:=Option (Array Keyed)×Nat×Nat×Array Keyed×Nat×Nat×Nat
noncomputable def F7 (a b out:Array Keyed) (na nb mg ac bc:Nat):StateT SortSt Sem (ForInStep HS):=do
 let d <- elem' a (na-1)
 if (na-1==0)=true then pure (ForInStep.done (some (kr a b (out.push d) (na-1) nb),na-1,nb,out.push d,mg,ac,bc))
 else if (decide (ac<7)&&decide (bc<7))=true then pure (ForInStep.done (none,na-1,nb,out.push d,mg,ac,bc))
 else pure (ForInStep.yield (none,na-1,nb,out.push d,mg,ac,bc))
noncomputable def F6 (a b out:Array Keyed) (na nb mg ac bc:Nat):StateT SortSt Sem (ForInStep HS):=do
 let d <- elem' b (nb-1)
 if (nb-1==1)=true then pure (ForInStep.done (some (pK a b (out.push d) na (nb-1)),na,nb-1,out.push d,mg,ac,bc))
 else do
  let e <- elem' a (na-1)
  let x <- fc true e b 0 (nb-1) (nb-1-1)
  match x with
  | some t =>
   if nb-1-t>0 then
    if (t==1)=true then pure (ForInStep.done (some (pK a b (out.push d++(b.extract t (nb-1)).reverse) na t),na,t,out.push d++(b.extract t (nb-1)).reverse,mg,ac,nb-1-t))
    else if (t==0)=true then pure (ForInStep.done (some (kr a b (out.push d++(b.extract t (nb-1)).reverse) na t),na,t,out.push d++(b.extract t (nb-1)).reverse,mg,ac,nb-1-t))
    else F7 a b (out.push d++(b.extract t (nb-1)).reverse) na t mg ac (nb-1-t)
   else F7 a b (out.push d) na (nb-1) mg ac (nb-1-t)
  | _=>pure (ForInStep.done (some (kr a b (out.push d) na (nb-1)),na,nb-1,out.push d,mg,ac,bc))
noncomputable def Ep (a b out:Array Keyed) (na nb mg ac bc:Nat):StateT SortSt Sem (ForInStep HS):=do
 eV mg
 let d <- elem' b (nb-1)
 let x <- fc false d a 0 na (na-1)
 match x with
 | some t =>
  if na-t>0 then
   if (t==0)=true then pure (ForInStep.done (some (kr a b (out++(a.extract t na).reverse) t nb),t,nb,out++(a.extract t na).reverse,mg,na-t,bc))
   else F6 a b (out++(a.extract t na).reverse) t nb mg (na-t) bc
  else F6 a b out na nb mg (na-t) bc
 | _=>pure (ForInStep.done (some (kr a b out na nb),na,nb,out,mg,ac,bc))
abbrev BA (β:Type):=Option (Array Keyed)×Nat×Nat×Array Keyed×β
noncomputable def Jc (a b:Array Keyed) (mg:Nat) (out:Array Keyed) (na nb ac bc:Nat):StateT SortSt Sem (ForInStep (BA (Nat×Nat))):=do
 let y <- elem' b (nb-1)
 let x <- elem' a (na-1)
 let r <- lt' y x
 match r with
 | some w =>
  if w=true then do
   let d <- elem' a (na-1)
   if (na-1==0)=true then pure (.done (some (kr a b (out.push d) (na-1) nb),na-1,nb,out.push d,ac+1,0))
   else if ac+1>=mg then pure (.done (none,na-1,nb,out.push d,ac+1,0)) else pure (.yield (none,na-1,nb,out.push d,ac+1,0))
  else do
   let d <- elem' b (nb-1)
   if (nb-1==1)=true then pure (.done (some (pK a b (out.push d) na (nb-1)),na,nb-1,out.push d,0,bc+1))
   else if bc+1>=mg then pure (.done (none,na,nb-1,out.push d,0,bc+1)) else pure (.yield (none,na,nb-1,out.push d,0,bc+1))
 | _=>pure (.done (some (kr a b out na nb),na,nb,out,ac,bc))
noncomputable def HP (a b:Array Keyed) (c:HS):StateT SortSt Sem (ForInStep HS) :=
 if c.2.2.2.2.1>1 then Ep a b c.2.2.2.1 c.2.1 c.2.2.1 (c.2.2.2.2.1-1) c.2.2.2.2.2.1 c.2.2.2.2.2.2 else Ep a b c.2.2.2.1 c.2.1 c.2.2.1 c.2.2.2.2.1 c.2.2.2.2.2.1 c.2.2.2.2.2.2
noncomputable def JN (c:HS):StateT SortSt Sem (ForInStep (BA Nat)) :=
 match c.1 with
 | some r=>pure (.done (some r,c.2.1,c.2.2.1,c.2.2.2.1,c.2.2.2.2.1))
 | none=>do
  eV (c.2.2.2.2.1+1)
  pure (.yield (none,c.2.1,c.2.2.1,c.2.2.2.1,c.2.2.2.2.1+1))
noncomputable def JM (a b:Array Keyed) (mg:Nat) (c:BA (Nat×Nat)):StateT SortSt Sem (ForInStep (BA Nat)) :=
 match c.1 with
 | some r=>pure (.done (some r,c.2.1,c.2.2.1,c.2.2.2.1,mg))
 | none=>do
  rule "list.sort.gallop"
  let c2 <- forIn [0:a.size+b.size] ((none,c.2.1,c.2.2.1,c.2.2.2.1,mg+1,c.2.2.2.2.1,c.2.2.2.2.2):HS) (λ_=>HP a b)
  JN c2
noncomputable def J4 (a b:Array Keyed) (c:BA Nat):StateT SortSt Sem (ForInStep (BA Nat)):=do
 let c1 <- forIn [0:a.size+b.size] ((none,c.2.1,c.2.2.1,c.2.2.2.1,0,0):BA (Nat×Nat)) (λ_ d=>Jc a b c.2.2.2.2 d.2.2.2.1 d.2.1 d.2.2.1 d.2.2.2.2.1 d.2.2.2.2.2)
 JM a b c.2.2.2.2 c1
noncomputable def J2 (c:BA Nat):StateT SortSt Sem (Array Keyed) :=
 match c.1 with
 | some r=>pure r
 | none=>unsupported "internal:list.sort.merge-bound"
noncomputable def J3 (a b:Array Keyed) (d:Keyed):StateT SortSt Sem (Array Keyed) :=
 if (a.size-1==0)=true then pure (kr a b #[d] (a.size-1) b.size)
 else if (b.size==1)=true then pure (pK a b #[d] (a.size-1) b.size)
 else do
  let st <- get
  let c <- forIn [0:a.size+b.size] ((none,a.size-1,b.size,#[d],gallopOf st):BA Nat) (λ_=>J4 a b)
  J2 c
theorem A1 (a b:Array Keyed):ur a b=(do
 rule "list.sort.merge-hi"
 let d <- elem' a (a.size-1)
 J3 a b d):=by kernel_rfl
section
variable {a b:Array Keyed}
variable (an:qG (model prog w) A E s lt ok κ) (p:Jw lt ok a b) {st:SortSt} {K:ForInStep HS->SortSt->Prop} {B:Nat}
 (kR:∀r c st',je st st'->qF lt (a.toList++b.toList) (Array.toList r)->c.1=some r->K (.done c) st')
 (kN:∀out na nb mg ac bc st',je st st'->Rh lt a b out na nb->1<=na->na<=a.size->2<=nb->nb<=b.size->na+nb<=B->K (.done (none,na,nb,out,mg,ac,bc)) st'/\K (.yield (none,na,nb,out,mg,ac,bc)) st')
include an p kR kN
theorem Ar {out:Array Keyed} {na nb mg ac bc:Nat} {st':SortSt} (S:je st st') (h:Rh lt a b out (na+1) nb) (ha:na+1<=a.size) (hb2:2<=nb) (hb:nb<=b.size) {va:Keyed} (ea:a[na]? = some va) (hx:∀y∈b.toList.take nb,Le lt y va) (hB:na+nb<=B) :
  wpS (model prog w) A E s (F7 a b out (na+1) nb mg ac bc) K st':=by
 unfold F7
 rw [Nat.add_sub_cancel]
 refine wpS_bind (bF ea ?_)
 have h':=h.pushA ea hx
 by_cases e:na=0
 ·rw [if_pos (beq_iff_eq.mpr e)]
  exact wpS_pure (kR _ _ _ S (h'.done (.inr e)) rfl)
 ·rw [if_neg (λh=>e (beq_iff_eq.mp h))]
  have:=kN (out.push va) na nb mg ac bc st' S h' ((aat e).elim (λy2=>b9 0x190090111 y2) (λy2=>b9 0x190009111 y2)) (aK 0x1001190c011 [_,_] rfl ha) hb2 hb hB
  split
  ·exact wpS_pure this.1
  ·exact wpS_pure this.2
theorem Aq {out:Array Keyed} {na m mg ac bc:Nat} {st':SortSt} (hk:kindOf st=κ) (S:je st st') (h:Rh lt a b out (na+1) (m+1)) (ha:na+1<=a.size) (hm:1<=m) (hb:m+1<=b.size) {vb:Keyed} (eb:b[m]? = some vb) (hx:∀y∈a.toList.take (na+1),Le lt y vb) (hB:na+m<=B) :
  wpS (model prog w) A E s (F6 a b out (na+1) (m+1) mg ac bc) K st':=by
 unfold F6
 rw [Nat.add_sub_cancel]
 refine wpS_bind (bF eb ?_)
 have h':=h.pushB eb hx
 by_cases e:m=1
 ·rw [if_pos (beq_iff_eq.mpr e)]
  exact wpS_pure (kR _ _ _ S (h'.first p e) rfl)
 ·rw [if_neg (λh=>e (beq_iff_eq.mp h)),Nat.add_sub_cancel]
  obtain ⟨va,ea,ma⟩:=er (x:=a) (i:=na) (by exact aK 0x1011190c011 [_,_] rfl ha)
  refine wpS_bind (bF ea (wpS_bind (FH an p.sb p.ob (p.oa _ ma) (S.k.trans hk) (by exact aK 0x1009c01190c011 [_,_] rfl hb) (by exact aK 0x1011190c211 [_,_] rfl (aab hm)) λt htn h1 h2=> ?_)))
  rw [aa1] at h1 h2
  have many:∀x∈(b.toList.drop t).take (m-t),∀y∈a.toList.take (na+1),Le lt y x:=λx hx y hy=>by
   obtain ⟨j,hj,ej⟩:=jb hx
   have hle:Le lt va x:=h2 _ _ (by exact aK 0x10c000 [_,_] rfl) (by exact aK 0x309c02c1321c2110112 [_,_,_,_] rfl hj (aab htn)) ej
   rw [<- aax,nV ea] at hy
   rcases aai.mp hy with rfl | hy
   ·exact hle
   ·exact an.lin.trans (tw an.lin p.sa ea y (aax.mp hy)) hle
  have rest:∀y∈b.toList.take t,Le lt y va:=λy hy=>by
   obtain ⟨j,hj,ej⟩:=jb (x:=b) (i:=0) (k:=t) (by simpa using hy)
   rw [aa1] at ej
   exact an.lin.of_lt (h1 j y (Nat.zero_le _) hj ej)
  dsimp only
  by_cases hk0:m-t>0
  ·rw [if_pos hk0]
   have h'':=h'.manyB htn many
   by_cases e2:t=1
   ·rw [if_pos (beq_iff_eq.mpr e2)]
    exact wpS_pure (kR _ _ _ S (h''.first p e2) rfl)
   ·rw [if_neg (λh=>e2 (beq_iff_eq.mp h))]
    by_cases e3:t=0
    ·rw [if_pos (beq_iff_eq.mpr e3)]
     exact wpS_pure (kR _ _ _ S (h''.done (.inl e3)) rfl)
    ·rw [if_neg (λh=>e3 (beq_iff_eq.mp h))]
     exact Ar an p kR kN S h'' ha ((aat e2).elim (λy2=>(aat e3).elim (λy1=>b9 0x290090121 y1) (λy1=>b9 0x29000912190112 y2 y1)) (λy2=>b9 0x290019111 y2)) (by exact aK 0x12002011190c012 [_,_,_] rfl hb htn) ea rest (by exact aK 0x230c01301210c012 [_,_,_,_] rfl hB htn)
  ·rw [if_neg hk0]
   obtain rfl:t=m:=by exact aag (htn) (aK 0x21020c101009512 [_,_,_] rfl hk0 (sA _ _))
   exact Ar an p kR kN S h' ha ((aat e).elim (λy2=>b9 0x29019011019022 hm y2) (λy2=>b9 0x290019111 y2)) (by exact aK 0x1001190c011 [_,_] rfl hb) ea rest (by exact hB)
theorem FK {out:Array Keyed} {na m mg ac bc:Nat} {st':SortSt} (hk:kindOf st=κ) (S:je st st') (h:Rh lt a b out na (m+1)) (ha1:1<=na) (ha:na<=a.size) (hm:1<=m) (hb:m+1<=b.size) (hB:na+m<=B+1) :
  wpS (model prog w) A E s (Ep a b out na (m+1) mg ac bc) K st':=by
 unfold Ep
 rw [eB,Nat.add_sub_cancel]
 refine wpS_bind (wpS_modify ?_)
 have S':=S.gal mg
 obtain ⟨vb,eb,mb⟩:=er (x:=b) (i:=m) (by exact aK 0x1011190c011 [_,_] rfl hb)
 refine wpS_bind (bF eb (wpS_bind (FG an p.sa p.oa (p.ob _ mb) (S'.k.trans hk) (by exact aK 0x1009c010011 [_,_] rfl ha) (by exact aK 0x1011190c211 [_,_] rfl (aab ha1)) λt htn h1 h2=> ?_)))
 rw [aa1] at h1 h2
 have many:∀x∈(a.toList.drop t).take (na-t),∀y∈b.toList.take (m+1),Le lt y x:=λx hx y hy=>by
  obtain ⟨j,hj,ej⟩:=jb hx
  have hlt:Le lt vb x:=an.lin.of_lt (h2 _ _ (by exact aK 0x10c000 [_,_] rfl) (by exact aK 0x309c02c1321c2110112 [_,_,_,_] rfl hj (aab htn)) ej)
  rw [<- aax,nV eb] at hy
  rcases aai.mp hy with rfl | hy
  ·exact hlt
  ·exact an.lin.trans (tw an.lin p.sb eb y (aax.mp hy)) hlt
 have rest:∀y∈a.toList.take t,Le lt y vb:=λy hy=>by
  obtain ⟨j,hj,ej⟩:=jb (x:=a) (i:=0) (k:=t) (by simpa using hy)
  rw [aa1] at ej
  exact h1 j y (Nat.zero_le _) hj ej
 dsimp only
 by_cases hk0:na-t>0
 ·rw [if_pos hk0]
  have h'':=h.manyA htn many
  by_cases e1:t=0
  ·rw [if_pos (beq_iff_eq.mpr e1)]
   exact wpS_pure (kR _ _ _ S' (h''.done (.inr e1)) rfl)
  ·rw [if_neg (λh=>e1 (beq_iff_eq.mp h))]
   obtain ⟨t',rfl⟩:∃t',t=t'+1:=⟨t-1,aag ((sA _ _)) ((aat e1).elim (λy2=>cu 0x191c00101090112 y2 (Nat.sub_le _ _)) (λy2=>cu 0x1190c01190c211 (aab (b9 0x190009111 y2))))⟩
   exact Aq an p kR kN hk S' h'' (by exact aK 0x1192c00192c0110012 [_,_,_] rfl ha htn) hm hb eb rest (by exact aK 0x213c00193c01192c10c012 [_,_,_,_] rfl hB htn)
 ·rw [if_neg hk0]
  obtain rfl:t=na:=by exact aag (htn) (aK 0x21020c101009512 [_,_,_] rfl hk0 (sA _ _))
  obtain ⟨t',rfl⟩:∃t',t=t'+1:=⟨t-1,by exact aag ((sA _ _)) (aK 0x1190c01190c211 [_,_] rfl (aab ha1))⟩
  exact Aq an p kR kN hk S' h (by exact ha) hm hb eb rest (by exact aK 0x210c0192c1190cc011 [_,_,_] rfl hB)
end
section
variable {a b:Array Keyed}
structure Hv (lt:Keyed->Keyed->Bool) (a b:Array Keyed) (N x:Nat) (out:Array Keyed) (na nb:Nat):Prop where
 r:Rh lt a b out na nb
 a1:1<=na
 a2:na<=a.size
 b1:2<=nb
 b2:nb<=b.size
 s:x+(na+nb)<=N
def Iv {β:Type} (lt:Keyed->Keyed->Bool) (a b:Array Keyed) (N x:Nat) (c:BA β):Prop:=c.1=none/\Hv lt a b N x c.2.2.2.1 c.2.1 c.2.2.1
def Dn {β:Type} (lt:Keyed->Keyed->Bool) (a b:Array Keyed) (c:BA β):Prop:= ∃r,c.1=some r/\qF lt (a.toList++b.toList) r.toList
theorem Hv.no {N M na nb:Nat} {out:Array Keyed} (h:Hv lt a b N (max 0 M) out na nb) (hN:N<=M):False:=by
 haveI s:=h.s
 rw [Nat.zero_max] at s
 exact absurd (aao s hN) (Nat.not_le.mpr (Nat.lt_add_of_pos_right (aa9 h.a1 (aaQ _ _))))
section
variable (an:qG (model prog w) A E s lt ok κ) (p:Jw lt ok a b) {st:SortSt} (hk:kindOf st=κ)
include an p hk
theorem FI {st':SortSt} (S:je st st') {N x mg na nb ac bc:Nat} {out:Array Keyed} (h:Hv lt a b N x out na nb) {K:ForInStep (BA (Nat×Nat))->SortSt->Prop} (kD:∀c,Dn lt a b c\/Iv lt a b N 1 c->K (.done c) st') (kY:∀c,Iv lt a b N (x+1) c->K (.yield c) st') :
  wpS (model prog w) A E s (Jc a b mg out na nb ac bc) K st':=by
 cases na with
 | zero=>exact absurd h.a1 ∅
 | succ na =>
 cases nb with
 | zero=>exact absurd h.b1 ∅
 | succ nb =>
 refine bW λY9 y9=> ?_
 obtain ⟨va,ea,ma⟩:=er (x:=a) (i:=na) h.a2
 obtain ⟨vb,eb,mb⟩:=er (x:=b) (i:=nb) h.b2
 refine y9 ?_
 have hs:=h.s
 refine wpS_bind (bF eb (wpS_bind (bF ea (wpS_bind (an.ask (p.ob _ mb) (p.oa _ ma) (S.k.trans hk) ?_)))))
 cases hl:lt vb va with
 | true =>
  refine fx rfl (wpS_bind (bF ea ?_))
  have h':=h.r.pushA ea λy hy=>by
   have hle:Le lt vb va:=an.lin.of_lt hl
   rw [<- aax,nV eb] at hy
   rcases aai.mp hy with rfl | hy
   ·exact hle
   ·exact an.lin.trans (tw an.lin p.sb eb y (aax.mp hy)) hle
  by_cases e:na=0
  ·exact fx (beq_iff_eq.mpr e) (wpS_pure (kD _ (.inl ⟨_,rfl,h'.done (.inr e)⟩)))
  ·have v:∀ {x'},x'+(na+(nb+1))<=N->Hv lt a b N x' (out.push va) na (nb+1):=λg=>⟨h',(aat e).elim (λy2=>b9 0x190090111 y2) (λy2=>b9 0x190009111 y2),Nat.le_of_lt h.a2,h.b1,h.b2,g⟩
   refine d8 (λh=>e (beq_iff_eq.mp h)) ?_
   by_cases q:ac+1>=mg
   ·exact fx q (wpS_pure (kD _ (.inr ⟨rfl,v (aK 0x3192c1c19c03192c191cc0c011 [_,_,_,_] rfl hs)⟩)))
   ·exact d8 q (wpS_pure (kY _ ⟨rfl,v (aK 0x3192c1c190cc03192c191cc0c011 [_,_,_,_] rfl hs)⟩))
 | false =>
  refine d8 aaF (wpS_bind (bF eb ?_))
  have h':=h.r.pushB eb λy hy=>by
   rw [<- aax,nV ea] at hy
   rcases aai.mp hy with rfl | hy
   ·exact hl
   ·exact an.lin.trans (tw an.lin p.sa ea y (aax.mp hy)) hl
  by_cases e:nb=1
  ·exact fx (beq_iff_eq.mpr e) (wpS_pure (kD _ (.inl ⟨_,rfl,h'.first p e⟩)))
  ·have v:∀ {x'},x'+(na+1+nb)<=N->Hv lt a b N x' (out.push vb) (na+1) nb:=λg=>⟨h',h.a1,h.a2,by haveI:=h.b1;exact (aat e).elim (λy2=>b9 0x29019011190c29022 this y2) (λy2=>b9 0x290019111 y2),Nat.le_of_lt h.b2,g⟩
   refine d8 (λh=>e (beq_iff_eq.mp h)) ?_
   by_cases q:bc+1>=mg
   ·exact fx q (wpS_pure (kD _ (.inr ⟨rfl,v (aK 0x32191cc19c03192c191cc0c011 [_,_,_,_] rfl hs)⟩)))
   ·exact d8 q (wpS_pure (kY _ ⟨rfl,v (aK 0x32191cc190cc03192c191cc0c011 [_,_,_,_] rfl hs)⟩))
theorem FJ {st':SortSt} (S:je st st') {N x:Nat} {c:HS} (h:Hv lt a b N x c.2.2.2.1 c.2.1 c.2.2.1) {K:ForInStep HS->SortSt->Prop} (kD:∀c st2,je st st2->Dn lt a b c\/Iv lt a b N 0 c->K (.done c) st2) (kY:∀c st2,je st st2->Iv lt a b N (x+1) c->K (.yield c) st2) :
  wpS (model prog w) A E s (HP a b c) K st':=by
 have key:∀ {out:Array Keyed} {na nb:Nat} (mg ac bc:Nat),Hv lt a b N x out na nb->wpS (model prog w) A E s (Ep a b out na nb mg ac bc) K st':=by
  intro out na nb mg ac bc h
  cases nb with
  | zero=>exact absurd h.b1 ∅
  | succ m =>
  have hs:=h.s
  haveI h1:=h.a1
  exact FK an p (B:=na+m-1) (λr c st2 S' hr hc=>kD c st2 S' (.inl ⟨r,hc,hr⟩)) (λo i j mm u v st2 S' r1 r2 r3 r4 r5 r6=>⟨kD _ _ S' (.inr ⟨rfl,⟨r1,r2,r3,r4,r5,by dsimp only;exact aK 0x354c09c021c601654c013192c1c0c013 [_,_,_,_,_,_,_] rfl hs r6 (Nat.sub_le _ _)⟩⟩),kY _ _ S' ⟨rfl,⟨r1,r2,r3,r4,r5,by dsimp only;exact aK 0x354c190cc021c601654c013192c1c0c013 [_,_,_,_,_,_,_] rfl hs r6 (Nat.sub_le _ _)⟩⟩⟩) hk S h.r h.a1 h.a2 (Nat.le_of_succ_le_succ h.b1) h.b2 (sA _ _)
 unfold HP
 by_cases hm:c.2.2.2.2.1>1
 ·exact fx hm (key _ _ _ h)
 ·exact d8 hm (key _ _ _ h)
theorem GT {st':SortSt} (S:je st st') {x:Nat} {c:BA Nat} (h:Hv lt a b (a.size+b.size) x c.2.2.2.1 c.2.1 c.2.2.1) {K:ForInStep (BA Nat)->SortSt->Prop} (kD:∀c st2,je st st2->Dn lt a b c->K (.done c) st2) (kY:∀c st2,je st st2->Iv lt a b (a.size+b.size) (x+1) c->K (.yield c) st2) :
  wpS (model prog w) A E s (J4 a b c) K st':=by
 have hs:=h.s
 have hN:c.2.1+c.2.2.1<=a.size+b.size:=aao (Nat.le_add_left _ _) hs
 refine wpS_bind (wpS_mono (wpS_forRange (I:=λx c1 st2=>st2=st'/\Iv lt a b (c.2.1+c.2.2.1) x c1) (Q:=λc1 st2=>st2=st'/\(Dn lt a b c1\/Iv lt a b (c.2.1+c.2.2.1) 1 c1)) ?_ (λ_ _ g=>(g.2.2.no hN).elim) ⟨rfl,rfl,⟨h.r,h.a1,h.a2,h.b1,h.b2,Nat.le_of_eq (aa1 _)⟩⟩) λc1 st2 g=> ?_)
 ·rintro y d _ _ _ ⟨rfl,g⟩
  exact FI an p hk S g.2 (λ_ q=>⟨rfl,q⟩) λ_ q=>⟨rfl,q⟩
 rw [g.1]
 rcases g.2 with ⟨r,e,hr⟩ | ⟨e,v⟩
 ·unfold JM;rw [e];exact wpS_pure (kD _ _ S ⟨r,rfl,hr⟩)
 unfold JM;rw [e]
 have hs2:=v.s
 haveI hN2:c1.2.1+c1.2.2.1<=a.size+b.size:=aK 0x32c54c010c54c19c0132c10c012 [_,_,_,_,_,_] rfl hN hs2
 refine wpS_bind (wpS_lift (wpAny_rule ⟨rfl,?_⟩))
 refine wpS_bind (wpS_mono (wpS_forRange (I:=λx d st3=>je st st3/\Iv lt a b (c1.2.1+c1.2.2.1) x d) (Q:=λd st3=>je st st3/\(Dn lt a b d\/Iv lt a b (c1.2.1+c1.2.2.1) 0 d)) ?_ (λ_ _ g=>(g.2.2.no hN2).elim) ⟨S,rfl,⟨v.r,v.a1,v.a2,v.b1,v.b2,Nat.le_of_eq (aa1 _)⟩⟩) λd st3 g=> ?_)
 ·exact λy d st3 _ _ g=>FJ an p hk g.1 g.2.2 (λ_ _ S q=>⟨S,q⟩) λ_ _ S q=>⟨S,q⟩
 rcases g.2 with ⟨r,e,hr⟩ | ⟨e,u⟩
 ·unfold JN;rw [e];exact wpS_pure (kD _ _ g.1 ⟨r,rfl,hr⟩)
 ·haveI hs3:=u.s
  unfold JN;rw [e,eB]
  exact wpS_bind (wpS_modify (wpS_pure (kY _ _ (g.1.gal _) ⟨rfl,⟨u.r,u.a1,u.a2,u.b1,u.b2,by dsimp only;exact aK 0x43c087c190cc065c087c09c0121c65c19c0143c21c0c013 [_,_,_,_,_,_,_,_,_] rfl hs hs2 hs3⟩⟩)))
end
theorem Av (an:qG (model prog w) A E s lt ok κ) (p:Jw lt ok a b) {st:SortSt} (hk:kindOf st=κ) (hlast:∀x,a[a.size-1]? = some x-> ∀y∈b.toList,Le lt y x) (ha:1<=a.size) (hb:1<=b.size) {Q:Array Keyed->SortSt->Prop}
  (hQ:∀r st',je st st'->qF lt (a.toList++b.toList) r.toList->Q r st'):wpS (model prog w) A E s (ur a b) Q st:=by
 refine bW λY9 y9=> ?_
 refine bz (a.size-1) λn en=> ?_
 have en':a.size=n+1:=by rw [<- en,aab ha]
 rw [en] at hlast
 obtain ⟨va,ea,ma⟩:=er (x:=a) (i:=n) (Nat.le_of_eq en'.symm)
 refine y9 ?_
 have R0:Rh lt a b #[va] n b.size:=by
  haveI R00:Rh lt a b #[] (n+1) b.size:=by
   unfold Rh
   rw [List.take_of_length_le (by rw [aa5,en'];exact aaK _),List.take_of_length_le (by rw [aa5];exact aaK _)]
   exact ⟨.nil,List.pairwise_reverse.mpr p.sa,List.pairwise_reverse.mpr p.sb,λ_ h=>(nomatch h),λ_ h=>(nomatch h),(List.reverse_perm _).append (List.reverse_perm _)⟩
  exact R00.pushA ea λy hy=>hlast va ea y (List.mem_of_mem_take hy)
 rw [A1,en]
 refine wpS_bind (wpS_lift (wpAny_rule ⟨rfl,wpS_bind (bF ea ?_)⟩))
 unfold J3;rw [en]
 by_cases e1:n=0
 ·exact fx (beq_iff_eq.mpr e1) (wpS_pure (hQ _ _ (je.refl _) (R0.done (.inr e1))))
 refine d8 (λh=>e1 (beq_iff_eq.mp h)) ?_
 by_cases e2:b.size=1
 ·exact fx (beq_iff_eq.mpr e2) (wpS_pure (hQ _ _ (je.refl _) (R0.first p e2)))
 refine d8 (λh=>e2 (beq_iff_eq.mp h)) (wpS_bind (wpS_get (wpS_bind (wpS_mono (wpS_forRange (I:=λx c st'=>je st st'/\Iv lt a b (a.size+b.size) x c) (Q:=λc st'=>je st st'/\Dn lt a b c) ?_ (λ_ _ g=>(g.2.2.no (aaK _)).elim) ⟨je.refl _,rfl,⟨R0,by dsimp only;exact (aat e1).elim (λy2=>b9 0x190090111 y2) (λy2=>b9 0x190009111 y2),by dsimp only;exact aK 0x10191c0311 [_,_] rfl en',by dsimp only;exact (aat e2).elim (λy2=>b9 0x29019011019022 hb y2) (λy2=>b9 0x290019111 y2),aaK _,by dsimp only;exact aK 0x20c21c09c0191c0311 [_,_,_] rfl en'⟩⟩) λc st' g=> ?_))))
 ·exact λx c st' _ _ g=>GT an p hk g.1 g.2.2 (λ_ _ S q=>⟨S,q⟩) λ_ _ S q=>⟨S,q⟩
 ·refine bW λY9 y9=> ?_
  obtain ⟨S,r,e,hr⟩:=g
  refine y9 ?_
  unfold J2;rw [e];exact wpS_pure (hQ r _ S hr)
end
open PySem PyProof.Rows
theorem zF (i:Nat):mergeAt' i=(do
 let s <- get
 let (some (sa,na,power),some (sb,nb,_)):=((pendingOf s)[i]?,(pendingOf s)[i+1]?) | unsupported "internal:list.sort.pending"
 set (setPending s (((pendingOf s).setIfInBounds i (sa,na+nb,power)).eraseIdxIfInBounds (i+1)))
 let some k <- fc false (<- elem' (arrOf s) sb) (arrOf s) sa na 0 | return false
 let (sa,na):=(sa+k,na-k)
 if na==0 then return true
 let some nb <- fc true (<- elem' (arrOf s) (sa+na-1)) (arrOf s) sb nb (nb-1) | return false
 if nb==0 then return true
 let x:=(arrOf s).extract sa sb
 let y:=(arrOf s).extract sb (sb+nb)
 let merged <- if na<=nb then ut x y else ur x y
 modify λs=>setArr s (merged.toList.zipIdx.foldl (λa (p,j)=>a.setIfInBounds (sa+j) p) (arrOf s))
 return (failedOf (<- get)).isNone):=rfl
section
theorem mR {u:List Keyed} {k:Nat} {x:Keyed} (h:x∈u.take k):∃j,j<k/\u[j]? = some x:=by
 obtain ⟨j,hj,e⟩:=List.getElem_of_mem h
 rw [abc] at hj
 refine ⟨j,aK 0x201210110112 [_,_,_] rfl hj (Nat.min_le_left _ _),?_⟩
 rw [List.getElem_take] at e
 rw [<- e];exact aal _
theorem jn {u:List Keyed} {k:Nat} {x:Keyed} (h:x∈u.drop k):∃j,A3 (k<=j) (j<u.length) (u[j]? = some x):=by
 obtain ⟨j,hj,e⟩:=List.getElem_of_mem h
 rw [List.length_drop] at hj
 refine ⟨k+j,aK 0x10c000 [_,_] rfl,by rw [Nat.add_comm];exact Nat.add_lt_of_lt_sub hj,?_⟩
 rw [List.getElem_drop] at e
 rw [<- e];exact aal _
theorem zP {u:List Keyed} (p:u.Pairwise (Le lt)) {i j:Nat} {x y:Keyed} (hij:i<=j) (hx:u[i]? = some x) (hy:u[j]? = some y):i=j\/Le lt x y:=by
 obtain ⟨h1,e1⟩:=aaa.mp hx
 obtain ⟨h2,e2⟩:=aaa.mp hy
 rcases Nat.lt_or_ge i j with h | h
 ·exact .inr (e1▸e2▸List.pairwise_iff_getElem.mp p i j h1 h2 h)
 ·exact .inl (aag (hij) (h))
theorem uP {arr:Array Keyed} {P u R:List Keyed} (e:arr.toList=P++(u++R)) {j:Nat} (hj:j<u.length):arr[P.length+j]? = u[j]? := by
 rw [<- aaB,e,aar (aaQ _ _),aaC,aaw hj]
theorem GR (an:qG (model prog w) A E s lt ok κ) {arr:Array Keyed} {P u R:List Keyed} (e:arr.toList=P++(u++R)) (su:u.Pairwise (Le lt)) (ou:∀x∈u,ok x) {key:Keyed} (okk:ok key) {st:SortSt} (hk:kindOf st=κ) {hint:Nat} (hh:hint<u.length) {Q:Option Nat->SortSt->Prop}
  (hQ:∀k,k<=u.length->(∀x∈u.take k,Le lt x key)->(∀x∈u.drop k,lt key x=true)->Q (some k) st):wpS (model prog w) A E s (fc false key arr P.length u.length hint) Q st:=by
 have hf:∀j,j<u.length->u[j]? = some ((u[j]?).getD key)/\ok ((u[j]?).getD key):=λj hj=>by
  rw [aal hj];exact ⟨rfl,ou _ (List.getElem_mem _)⟩
 refine lD an (f:=λj=>(u[j]?).getD key) hk okk (λj hj=>⟨(uP e hj).trans (hf j hj).1,(hf j hj).2⟩) hh (λj l hjl hl hb=> ?_) λk hkn h1 h2=>hQ k hkn (λx hx=> ?_) λx hx=> ?_
 ·have hb':(!lt key ((u[l]?).getD key))=true:=hb
  show (!lt key ((u[j]?).getD key))=true
  rcases zP su hjl (hf j (aK 0x201211110012 [_,_,_] rfl hjl hl)).1 (hf l hl).1 with h | h
  ·rw [h];exact hb'
  ·rw [Bool.not_eq_true'] at hb' ⊢
   exact an.lin.trans h hb'
 ·obtain ⟨j,hj,ej⟩:=mR hx
  haveI:=h1 j hj
  rw [ej] at this
  haveI:(!lt key x)=true:=this
  rw [Bool.not_eq_true'] at this;exact this
 ·obtain ⟨j,hj,hj2,ej⟩:=jn hx
  haveI:=h2 j hj hj2
  rw [ej] at this
  haveI:(!lt key x)=false:=this
  rw [Bool.not_eq_false'] at this;exact this
theorem GS (an:qG (model prog w) A E s lt ok κ) {arr:Array Keyed} {P u R:List Keyed} (e:arr.toList=P++(u++R)) (su:u.Pairwise (Le lt)) (ou:∀x∈u,ok x) {key:Keyed} (okk:ok key) {st:SortSt} (hk:kindOf st=κ) {hint:Nat} (hh:hint<u.length) {Q:Option Nat->SortSt->Prop}
  (hQ:∀k,k<=u.length->(∀x∈u.take k,lt x key=true)->(∀x∈u.drop k,Le lt key x)->Q (some k) st):wpS (model prog w) A E s (fc true key arr P.length u.length hint) Q st:=by
 have hf:∀j,j<u.length->u[j]? = some ((u[j]?).getD key)/\ok ((u[j]?).getD key):=λj hj=>by
  rw [aal hj];exact ⟨rfl,ou _ (List.getElem_mem _)⟩
 refine lD an (f:=λj=>(u[j]?).getD key) hk okk (λj hj=>⟨(uP e hj).trans (hf j hj).1,(hf j hj).2⟩) hh (λj l hjl hl hb=> ?_) λk hkn h1 h2=>hQ k hkn (λx hx=> ?_) λx hx=> ?_
 ·have hb':lt ((u[l]?).getD key) key=true:=hb
  show lt ((u[j]?).getD key) key=true
  rcases zP su hjl (hf j (aK 0x201211110012 [_,_,_] rfl hjl hl)).1 (hf l hl).1 with h | h
  ·rw [h];exact hb'
  ·cases e:lt ((u[j]?).getD key) key with
   | true=>rfl
   | false =>
    have:=an.lin.ntr h e
    rw [hb'] at this;cases this
 ·obtain ⟨j,hj,ej⟩:=mR hx
  haveI:=h1 j hj
  rw [ej] at this
  exact this
 ·obtain ⟨j,hj,hj2,ej⟩:=jn hx
  haveI:=h2 j hj hj2
  rw [ej] at this
  exact this
theorem rY:∀(c:List Keyed) (n o:Nat) (arr:Array Keyed) (P D R:List Keyed),arr.toList=P++(D++R)->D.length=c.length->n+o=P.length->((c.zipIdx o).foldl (λa (p:Keyed×Nat)=>a.setIfInBounds (n+p.2) p.1) arr).toList=P++(c++R)
 | [],n,o,arr,P,D,R,e,hd,hn=>by
  rw [List.length_eq_zero_iff.mp hd] at e;exact e
 | x::c,n,o,arr,P,D,R,e,hd,hn=>by
  cases D with
  | nil=>cases hd
  | cons d D =>
   rw [List.zipIdx_cons,List.foldl_cons]
   haveI e':(arr.setIfInBounds (n+o) x).toList=(P++[x])++(D++R):=by
    rw [Array.toList_setIfInBounds,e,hn,List.set_append_right _ _ (aaK _),Nat.sub_self,aae];rfl
   haveI:=rY c n (o+1) (arr.setIfInBounds (n+o) x) (P++[x]) D R e' (by simpa using hd) (by rw [aac,<- Nat.add_assoc,hn];rfl)
   rw [aae] at this
   exact this
theorem GW {σ:Type} {x:σ} {Q:PUnit->σ->Prop} {st:σ} (h:Q ⟨⟩ x):wpS M A E s (set x:StateT σ Sem PUnit) Q st:=by
 unfold wpS;rw [StateT.run_set];exact wpAny_pure ⟨rfl,h⟩
theorem F4 {arr:Array Keyed} {P u R:List Keyed} (e:arr.toList=P++(u++R)) (k:Nat) (hk:k<=u.length):(arr.extract (P.length+k) (P.length+u.length)).toList=u.drop k:=by
 rw [dS,e,List.drop_append,List.drop_eq_nil_of_le (aaQ _ _),List.nil_append,aaC,List.drop_append_of_le_length hk,List.take_append_of_le_length (by rw [List.length_drop];exact aK 0x40024c30131c21c0c212 [_,_,_,_,_] rfl (aab (aK 0x12c02c010011 [_,_,_] rfl hk)) (sA _ _))]
 exact List.take_of_length_le (by rw [List.length_drop];exact aK 0x40013c4c23c01210c212 [_,_,_,_,_] rfl (aab hk) (sA _ _))
theorem Ei {arr:Array Keyed} {P v R:List Keyed} (e:arr.toList=P++(v++R)) (m:Nat) (hm:m<=v.length):(arr.extract P.length (P.length+m)).toList=v.take m:=by
 rw [dS,e,List.drop_left,aaC,List.take_append_of_le_length hm]
theorem Au (an:qG (model prog w) A E s lt ok κ) {st:SortSt} (hk:kindOf st=κ) (hfail:failedOf st=none) {p1 p2:List (Nat×Nat×Nat)} {P u v R:List Keyed} {pw pw2:Nat}
  (hp:(pendingOf st).toList=p1++(P.length,u.length,pw)::(P.length+u.length,v.length,pw2)::p2) (he:(arrOf st).toList=P++(u++(v++R))) (su:u.Pairwise (Le lt)) (sv:v.Pairwise (Le lt)) (ou:∀x∈u,ok x) (ov:∀x∈v,ok x) (hu:1<=u.length) (hv:1<=v.length)
  {Q:Bool->SortSt->Prop} (hQ:∀c (st':SortSt),kindOf st'=κ->failedOf st'=none->(pendingOf st').toList=p1++(P.length,u.length+v.length,pw)::p2->(arrOf st').toList=P++(c++R)->qF lt (u++v) c->Q true st') :
  wpS (model prog w) A E s (mergeAt' p1.length) Q st:=by
 rw [zF]
 refine wpS_bind (wpS_get ?_)
 haveI g1:(pendingOf st)[p1.length]? = some (P.length,u.length,pw):=by rw [<- aaB,hp,aar (aaK _),Nat.sub_self];rfl
 have g2:(pendingOf st)[p1.length+1]? = some (P.length+u.length,v.length,pw2):=by rw [<- aaB,hp,aar (aaQ _ _),aaC];rfl
 rw [g1,g2]
 dsimp only
 refine wpS_bind (GW ?_)
 refine bz (setPending st (((pendingOf st).setIfInBounds p1.length (P.length,u.length+v.length,pw)).eraseIdxIfInBounds (p1.length+1))) λst1 e1=> ?_
 have hp1:(pendingOf st1).toList=p1++(P.length,u.length+v.length,pw)::p2:=by
  rw [<- e1]
  show (((pendingOf st).setIfInBounds p1.length (P.length,u.length+v.length,pw)).eraseIdxIfInBounds (p1.length+1)).toList=_
  rw [Array.toList_eraseIdxIfInBounds,Array.toList_setIfInBounds,hp,List.set_append_right _ _ (aaK _),Nat.sub_self,List.eraseIdx_append_of_length_le (aaQ _ _),aaC];rfl
 have k1:kindOf st1=κ:=by rw [<- e1];exact hk
 have a1:arrOf st1=arrOf st:=by rw [<- e1]
 have f1:failedOf st1=none:=by rw [<- e1];exact hfail
 rw [e1]
 have he2:(arrOf st).toList=(P++u)++(v++R):=by rw [he,aae]
 obtain ⟨v0,vt,ev⟩:∃v0 vt,v=v0::vt:=by
  cases v with
  | nil=>simp at hv
  | cons a b=>exact ⟨a,b,rfl⟩
 have x0:(arrOf st)[P.length+u.length]? = some v0:=by
  haveI:=uP he2 (j:=0) (aK 0x91019011 [_] rfl hv)
  rw [aac,Nat.add_zero] at this
  rw [this,ev];rfl
 have o0:ok v0:=ov v0 (by rw [ev];exact .head _)
 have v0le:∀y∈v,y=v0\/Le lt v0 y:=λy hy=>by
  rw [ev] at hy sv
  rcases aai.mp hy with h | h
  ·exact .inl h
  ·exact .inr ((aaI.mp sv).1 y h)
 refine wpS_bind (bF x0 (wpS_bind (GR an he su ou o0 k1 (aK 0x91019011 [_] rfl hu) λk hku h1 h2=> ?_)))
 dsimp only
 have u1v:∀x∈u.take k,∀y∈v,Le lt x y:=λx hx y hy=>by
  rcases v0le y hy with rfl | h
  ·exact h1 x hx
  ·exact an.lin.trans (h1 x hx) h
 have iG:∀ {c:List Keyed},qF lt (u++v) c->(arrOf st).toList=P++(c++R)->Q true st1:=λhc hca=>hQ _ st1 k1 f1 hp1 (by rw [a1];exact hca) hc
 by_cases hz:u.length-k=0
 ·rw [if_pos (beq_iff_eq.mpr hz)]
  haveI:u.take k=u:=List.take_of_length_le (aK 0x21020c101090212 [_,_,_] rfl hz (sA _ _))
  rw [this] at u1v
  exact wpS_pure (iG ⟨aan.mpr ⟨su,sv,u1v⟩,.refl _⟩ (by rw [he,aae]))
 rw [if_neg (λh=>hz (beq_iff_eq.mp h))]
 obtain ⟨ul,eul⟩:∃ul,u[u.length-1]? = some ul:=⟨_,aal (aK 0x1011190c211 [_,_] rfl (aab hu))⟩
 have xl:(arrOf st)[P.length+k+(u.length-k)-1]? = some ul:=by
  haveI:=uP he (j:=u.length-1) (aK 0x1011190c211 [_,_] rfl (aab hu))
  rw [show P.length+k+(u.length-k)-1=P.length+(u.length-1) from aag ((aat hz).elim (λy2=>fu [_,_,_,_,_,_] [] 0x54c30195c101204cc3010921110014 hku y2 (Nat.sub_le _ _) (sA _ _)) (λy2=>fu [_,_,_,_,_,_] [] 0x51c00195c401423c21321cc190c213 (aab (lh 0x21cc190009111 y2)) (aab hku) (sA _ _))) (fu [_,_,_,_,_,_] [] 0x350c04195c2112c401193c210cc013 (sA _ _) (sA _ _) (aab hu)),this,eul]
 have oul:ok ul:=ou ul (aaE eul)
 have ule:∀x∈u,x=ul\/Le lt x ul:=λx hx=>by
  obtain ⟨j,hj,e⟩:=List.getElem_of_mem hx
  rcases zP su (show j<=u.length-1 from aK 0x200192c10110112 [_,_,_] rfl hj (sA _ _)) (e▸aal hj) eul with h | h
  ·subst h
   rw [aal hj,e] at eul
   exact .inl (Option.some.inj eul)
  ·exact .inr h
 have gt:=λ{Q}=>GS (Q:=Q) an he2 sv ov oul k1 (hint:=v.length-1) (aK 0x1011190c211 [_,_] rfl (aab hv))
 rw [aac] at gt
 refine wpS_bind (bF xl (wpS_bind (gt λm hmv h3 h4=> ?_)))
 dsimp only
 have uv2:∀x∈u,∀y∈v.drop m,Le lt x y:=λx hx y hy=>by
  rcases ule x hx with rfl | h
  ·exact h4 y hy
  ·exact an.lin.trans h (h4 y hy)
 by_cases hm:m=0
 ·rw [if_pos (beq_iff_eq.mpr hm)]
  subst hm
  exact wpS_pure (iG ⟨aan.mpr ⟨su,sv,uv2⟩,.refl _⟩ (by rw [he,aae]))
 rw [if_neg (λh=>hm (beq_iff_eq.mp h))]
 have ex:=F4 he k hku
 have ey:=Ei he2 m hmv
 rw [aac] at ey
 refine bz ((arrOf st).extract (P.length+k) (P.length+u.length)) λx hxe=> ?_
 refine bz ((arrOf st).extract (P.length+u.length) (P.length+u.length+m)) λy hye=> ?_
 rw [hxe] at ex ⊢
 rw [hye] at ey ⊢
 have sx:x.size=u.length-k:=by rw [<- aa5,ex,List.length_drop]
 have sy:y.size=m:=by rw [<- aa5,ey,abc];exact Nat.min_eq_left hmv
 have sux:x.toList.Pairwise (Le lt):=by rw [ex];exact su.drop
 have svy:y.toList.Pairwise (Le lt):=by rw [ey];exact sv.take
 have ox:∀z∈x.toList,ok z:=λz hz=>ou z (List.mem_of_mem_drop (ex▸hz))
 have oy:∀z∈y.toList,ok z:=λz hz=>ov z (List.mem_of_mem_take (ey▸hz))
 have ylt:∀z∈y.toList,lt z ul=true:=λz hz=>h3 z (ey▸hz)
 have after:∀(r:Array Keyed) (st':SortSt),je st1 st'->qF lt (x.toList++y.toList) r.toList->wpS (model prog w) A E s (do
   modify λs=>setArr s (r.toList.zipIdx.foldl (λa (p,j)=>a.setIfInBounds (P.length+k+j) p) (arrOf s))
   return (failedOf (<- get)).isNone) Q st':=λr st' S hr=>by
  refine wpS_bind (wpS_modify (wpS_bind (wpS_get (wpS_pure ?_))))
  show Q (failedOf st').isNone (setArr st' _)
  rw [S.f,f1]
  haveI hlen:(u.drop k++v.take m).length=r.toList.length:=by rw [hr.2.length_eq,ex,ey]
  haveI earr:(arrOf st').toList=(P++u.take k)++((u.drop k++v.take m)++(v.drop m++R)):=by
   rw [S.a,a1,he]
   haveI e1:u.take k++u.drop k=u:=aaS k u
   haveI e2:v.take m++v.drop m=v:=aaS m v
   calc P++(u++(v++R))=P++((u.take k++u.drop k)++((v.take m++v.drop m)++R)):=by rw [e1,e2]
    _=_:=by simp only [aae]
  haveI eo:=rY r.toList (P.length+k) 0 (arrOf st') (P++u.take k) (u.drop k++v.take m) (v.drop m++R) earr hlen (by rw [aac,abc,Nat.min_eq_left hku];rfl)
  refine hQ (u.take k++(r.toList++v.drop m)) _ (S.k.trans k1) (S.f.trans f1) ?_ ?_ ⟨?_,?_⟩
  ·show (pendingOf st').toList=_
   rw [S.p];exact hp1
  ·refine Eq.trans eo ?_
   simp only [aae]
  ·have mem:∀z∈r.toList,z∈u.drop k\/z∈v.take m:=λz hz=>by
    haveI:=hr.2.mem_iff.mp hz
    rw [ex,ey] at this
    exact aap.mp this
   haveI su':(u.take k++u.drop k).Pairwise (Le lt):=by rw [aaS];exact su
   haveI sv':(v.take m++v.drop m).Pairwise (Le lt):=by rw [aaS];exact sv
   refine aan.mpr ⟨su.take,aan.mpr ⟨hr.1,sv.drop,λz hz q hq=> ?_⟩,λz hz q hq=> ?_⟩
   ·rcases mem z hz with h | h
    ·exact uv2 z (List.mem_of_mem_drop h) q hq
    ·exact (aan.mp sv').2.2 z h q hq
   ·rcases aap.mp hq with h | h
    ·rcases mem q h with h | h
     ·exact (aan.mp su').2.2 z hz q h
     ·exact u1v z hz q (List.mem_of_mem_take h)
    ·exact u1v z hz q (List.mem_of_mem_drop h)
  ·haveI hp':=hr.2
   rw [ex,ey] at hp'
   refine ((hp'.append_right (v.drop m)).append_left (u.take k)).trans ?_
   haveI e1:u.take k++u.drop k=u:=aaS k u
   haveI e2:v.take m++v.drop m=v:=aaS m v
   refine List.Perm.of_eq ?_
   calc u.take k++(u.drop k++v.take m++v.drop m)=(u.take k++u.drop k)++(v.take m++v.drop m):=by simp only [aae]
    _=_:=by rw [e1,e2]
 by_cases hle:u.length-k<=m
 ·rw [if_pos hle]
  refine wpS_bind (Aw an ⟨sux,svy,ox,oy,λz hz q hq=> ?_⟩ k1 (λz q hz hq=> ?_) ((aat hz).elim (λy2=>cu 0x1190090111 y2) (λy2=>cu 0x1901091110312 sx y2)) ((aat hm).elim (λy2=>cu 0x1190090111 y2) (λy2=>cu 0x1901091110312 sy y2)) after)
  ·rw [ex,sx,List.drop_drop] at hq
   obtain ⟨j,hj,hj2,ej⟩:=jn hq
   obtain rfl:j=u.length-1:=aag (aK 0x200192c10110112 [_,_,_] rfl hj2 (sA _ _)) (aK 0x230191c50105c4014193c21210c014 [_,_,_,_,_,_] rfl hj (aab hu) (sA _ _) (sA _ _))
   rw [eul] at ej;cases ej
   exact an.lin.of_lt (ylt z hz)
  ·rw [<- aaB,ey,List.getElem?_take_of_lt (by exact (aat hm).elim (λy2=>b9 0x91090111 y2) (λy2=>y2)),ev] at hz
   cases hz
   refine h2 q ?_
   rw [<- aaB,ex] at hq
   exact aaE hq
 ·rw [if_neg hle]
  refine wpS_bind (Av an ⟨sux,svy,ox,oy,λz hz q hq=> ?_⟩ k1 (λz hz q hq=> ?_) (aK 0x190214110312 [_,_,_] rfl sx hle) ((aat hm).elim (λy2=>cu 0x1190090111 y2) (λy2=>cu 0x1901091110312 sy y2)) after)
  ·rw [ey] at hz
   haveI hz':z∈v.take 1:=by
    rw [List.take_take] at hz
    rwa [Nat.min_eq_left (by exact (aat hm).elim (λy2=>b9 0x190090111 y2) (λy2=>b9 0x190009111 y2))] at hz
   rw [ev] at hz'
   rw [aaj.mp hz']
   exact an.lin.of_lt (h2 q (ex▸hq))
  ·rw [<- aaB,ex,sx,List.getElem?_drop,show k+(u.length-k-1)=u.length-1 from aag (aK 0x402c0194c301321c211190c213 [_,_,_,_,_] rfl (aab (aK 0x19010411 [_,_] rfl hle)) (aab hku) (sA _ _)) (aK 0x13c402194c2130c201191c0013 [_,_,_,_,_] rfl (sA _ _) (sA _ _) (aab hu)),eul] at hz
   cases hz
   exact an.lin.of_lt (ylt q hq)
end
open PySem PyProof.Rows
theorem I3 {l r:Nat} (h:¬l>=r):l<=(l+r)/2/\(l+r)/2+1<=r :=
 have h:=Nat.lt_of_not_le h
 ⟨(Nat.le_div_iff_mul_le ∅).mpr (aao (Nat.le_of_eq (Nat.mul_two l)) (Nat.add_le_add_left (Nat.le_of_lt h) l)),(Nat.div_lt_iff_lt_mul ∅).mpr (Nat.lt_of_lt_of_eq (Nat.add_lt_add_right h r) (Nat.mul_two r).symm)⟩
theorem JH {l r k i:Nat} (h:¬l>=r) (m:r-l<=k-i):(l+r)/2-l<=k-(i+1)/\r-((l+r)/2+1)<=k-(i+1) :=
 have b:=I3 h
 ⟨Nat.le_sub_one_of_lt (aa9 (Nat.sub_lt_sub_right b.1 b.2) m),Nat.le_sub_one_of_lt (aa9 (Nat.sub_lt_sub_left (Nat.lt_of_not_le h) (Nat.lt_succ_of_le b.1)) m)⟩
theorem DY {arr:Array Keyed} {P s t R:List Keyed} {x:Keyed} (e:arr.toList=P++((s++t)++(x::R))):(bubble arr (P.length+(s++t).length) t.length).toList=P++((s++x::t)++R):=by
 haveI hsz:P.length+(s++t).length<arr.size:=by rw [<- aa5,e];simp only [aac,aas];exact aK 0x193c21cc0c21c0c10 [_,_,_,_] rfl
 apply List.ext_getElem?
 intro k
 rw [aaB,getElem?_bubble hsz _ (by rw [aac];exact aK 0x2c1c000 [_,_,_] rfl) k]
 simp only [<- aaB,e,aac]
 by_cases h1:k<P.length
 ·rw [if_neg (by exact λhz=>aK 0x909642c43c1c01203110113 [_,_,_,_,_] rfl h1 hz (sA _ _)),if_neg (λq=>zI 0x909642c43c1c01021110113 h1 q.1 (sA _ _)),aaw h1,aaw h1]
 ·obtain ⟨j,rfl⟩:∃j,k=P.length+j:=⟨k-P.length,aag (aK 0x12c0021c0011 [_,_,_] rfl (sA _ _)) (aK 0x201c0210c211 [_,_,_] rfl (aab (aK 0x1010511 [_,_] rfl h1)))⟩
  have ap:∀(l:List Keyed) (i:Nat),(P++l)[P.length+i]? = l[i]? := λl i=>by rw [aar (aaQ _ _),aaC]
  rw [ap ((s++x::t)++R) j]
  by_cases h2:j=s.length
  ·subst h2
   rw [if_pos (by exact aag (aK 0x310c023c21c0c011 [_,_,_,_] rfl (sA _ _)) (aK 0x32c0013c2c10c211 [_,_,_,_] rfl (aab (aK 0x2c1c000 [_,_,_] rfl)))),ap,aae,aae,aar (by exact aK 0x10c000 [_,_] rfl),aar (by exact aK 0x21002c10c011 [_,_,_] rfl (sA _ _)),aar (by exact aK 0x0 [_] rfl)]
   rw [show s.length+t.length-s.length-t.length=0 from aag ((Nat.le_total _ _).elim (λy2=>vF 0x90013c32c21210c212 (aab y2) (aab (cu 0x10c000))) (λy2=>b9 0x900090211 (aa0 y2))) (b9 0x900),Nat.sub_self];rfl
  ·rw [if_neg (by exact λx9=>(aat h2).elim (λy2=>zI 0x909642c43c0c013111210c313 x9 y2 (sA _ _)) (λy2=>zI 0x909643c0c42c211311210c213 x9 y2 (aab (lh 0x2c1c000))))]
   by_cases h3:s.length<j/\j<=s.length+t.length
   ·rw [if_pos (by exact ⟨zI 0x14c2130c4c32c2110112 h3.1 (aab (lh 0x2c1c000)),vF 0x21c3c03c021c0011 h3.2⟩),show P.length+j-1=P.length+(j-1) by exact aag (aK 0x31c00193c20121c190c212 [_,_,_,_] rfl (aab (aK 0x12c19010111 [_,_,_] rfl h3.1)) (sA _ _)) (aK 0x230c01193c21192c10c012 [_,_,_,_] rfl (sA _ _) (aab (aK 0x119010111 [_,_] rfl h3.1))),ap,aae,aae,aar (by exact aK 0x200192c10110112 [_,_,_] rfl h3.1 (sA _ _)),aaw (by exact (Nat.le_total _ _).elim (λy2=>zI 0x2310194c21413c2121c0013 h3.2 (aab y2) (aab (cu 0x119010111 h3.1))) (λy2=>vF 0x2310932120c10110113 h3.1 h3.2 (aa0 y2))),aar (by exact aK 0x10010111 [_,_] rfl h3.1)]
    obtain ⟨i,hi⟩:∃i,j-s.length=i+1:=⟨j-s.length-1,aag ((sA _ _)) ((Nat.le_total _ _).elim (λy2=>cu 0x1190c01190c211 (aab y2)) (λy2=>vF 0x3192c003c1010922110113 h3.1 (aa0 y2) (sA _ _)))⟩
    rw [hi,aa4,List.getElem?_cons_succ,aaw (by exact aK 0x241013c21194c33121c0013 [_,_,_,_,_] rfl h3.2 hi (aab (aK 0x10010111 [_,_] rfl h3.1))),show j-1-s.length=i from aag ((aat h2).elim (λy2=>(Nat.le_total _ _).elim (λy1=>zI 0x4200301312c2110113 y2 (aab y1) (Nat.sub_le _ _)) (λy1=>cu 0x100090211 (aa0 y1))) (λy2=>(Nat.le_total _ _).elim (λy1=>fu [_,_,_,_,_,_] [] 0x12030c5015194c21432c21191c0214 hi (aab y1) (aab (cu 0x119010111 y2)) (sA _ _)) (λy1=>cu 0x100090211 (aa0 y1)))) (fu [_,_,_,_,_,_] [] 0x310540c21192c50143c201191c0314 hi (sA _ _) (sA _ _) (aab (cu 0x10010111 h3.1)))]
   ·rw [if_neg (λq=>h3 ⟨by haveI:=q.1;exact zI 0x23140c43c1c0121c0112 q.1 (sA _ _),by haveI:=q.2;exact vF 0x32c1032c0c10c011 q.2⟩),ap]
    by_cases h4:j<s.length
    ·rw [aae,aae,aaw h4,aaw h4]
    ·obtain ⟨i,rfl⟩:∃i,j=s.length+t.length+1+i:=⟨j-(s.length+t.length+1),by haveI h5:s.length+t.length<j:=Nat.lt_of_not_le (λq=>h3 ⟨(aat h2).elim (λy2=>cu 0x11101110522 h4 y2) (λy2=>y2),q⟩);exact aag (vF 0x11932ccc001932cc1c0011 (sA _ _)) (vF 0x301921ccc031921cc0c211 (aab (lh 0x21910cc0210c111 h5)))⟩
     rw [aar (by rw [aac];exact aK 0x21910ccc10c00 [_,_,_] rfl),aar (by rw [aac,aas];exact aK 0x21910ccc191c0c00 [_,_,_] rfl),aac,aac,aas]
     rw [show s.length+t.length+1+i-(s.length+t.length)=i+1 from aag (aK 0x193c0031921ccc21c0c211 [_,_,_,_] rfl (aab (aK 0x21910ccc10c00 [_,_,_] rfl))) (aK 0x3192c010c3c21910ccc011 [_,_,_,_] rfl (sA _ _)),show s.length+t.length+1+i-(s.length+(t.length+1))=i from aag (aK 0x30031921ccc192c1c0c211 [_,_,_,_] rfl (aab (aK 0x21910ccc191c0c00 [_,_,_] rfl))) (aK 0x320191c0c3c21910ccc011 [_,_,_,_] rfl (sA _ _)),List.getElem?_cons_succ]
theorem EG {arr:Array Keyed} {P D R:List Keyed} (e:arr.toList=P++(D++R)):(mirror arr P.length (P.length+D.length) ((P.length+D.length-P.length)/2)).toList=P++(D.reverse++R):=by
 haveI hsz:P.length+D.length<=arr.size:=by rw [<- aa5,e];simp only [aac];exact aK 0x21c0c10c00 [_,_,_] rfl
 apply List.ext_getElem?
 intro k
 rw [aaB,getElem?_mirror_all hsz k]
 simp only [<- aaB,e]
 by_cases h1:k<P.length
 ·rw [if_neg (λq=>cu 0x9096010110112 h1 q.1),aaw h1,aaw h1]
 ·obtain ⟨j,rfl⟩:∃j,k=P.length+j:=⟨k-P.length,aag (aK 0x12c0021c0011 [_,_,_] rfl (sA _ _)) (aK 0x201c0210c211 [_,_,_] rfl (aab (aK 0x1010511 [_,_] rfl h1)))⟩
  have ap:∀(l:List Keyed) (i:Nat),(P++l)[P.length+i]? = l[i]? := λl i=>by rw [aar (aaQ _ _),aaC]
  rw [ap (D.reverse++R) j]
  by_cases h2:j<D.length
  ·rw [if_pos (⟨cu 0x10c000,lh 0x12c02c110111 h2⟩),show P.length+(P.length+D.length)-1-(P.length+j)=P.length+(D.length-1-j) from aag ((Nat.le_total _ _).elim (λy2=>fu [_,_,_,_,_,_,_] [] 0x61c00195c40126c50141c1c193c21321c0c214 (aab y2) (aab (lh 0x12c2c19010111 h2)) (sA _ _) (sA _ _)) (λy2=>lh 0x21c00090211 (aa0 y2))) ((Nat.le_total _ _).elim (λy2=>fu [_,_,_,_,_,_,_] [] 0x405c06192c21193c65c5c0115c4c301210c214 (aab y2) (sA _ _) (sA _ _) (aab (cu 0x119010111 h2))) (λy2=>fu [_,_,_,_,_,_] [] 0x425c0193c15c5c0105c4c3010922110114 h2 (aa0 y2) (sA _ _) (sA _ _))),ap,aaw (by exact aK 0x2012191c2110012 [_,_,_] rfl (Nat.sub_le _ _) (aab (aK 0x119010111 [_,_] rfl h2))),aaw (by rw [aa7];exact h2),List.getElem?_reverse h2]
  ·rw [if_neg (λq=>h2 (by haveI:=q.2;exact lh 0x21120c10c111 q.2)),ap,aar (by exact aK 0x1010511 [_,_] rfl h2),aar (by rw [aa7];exact cu 0x1010511 h2),aa7]
section
theorem qE (an:qG (model prog w) A E s lt ok κ) {st:SortSt} (hk:kindOf st=κ) {i j:Nat} {x y:Keyed} (hx:(arrOf st)[i]? = some x) (hy:(arrOf st)[j]? = some y) (ox:ok x) (oy:ok y) {Q:Option Bool->SortSt->Prop} (h:Q (some (lt x y)) st) :
  wpS (model prog w) A E s (ltAt' i j) Q st:=by
 rw [ltAt'_eq]
 exact wpS_bind (wpS_get (wpS_bind (bF hx (wpS_bind (bF hy (an.ask ox oy hk h))))))
structure lZ (st st':SortSt):Prop where
 k:kindOf st'=kindOf st
 p:pendingOf st'=pendingOf st
 f:failedOf st'=failedOf st
theorem lZ.refl (st:SortSt):lZ st st:=⟨rfl,rfl,rfl⟩
theorem lZ.arr {st st':SortSt} (h:lZ st st') (a:Array Keyed):lZ st (setArr st' a):=⟨h.k,h.p,h.f⟩
theorem Br (an:qG (model prog w) A E s lt ok κ) {st:SortSt} (hk:kindOf st=κ) {P u R:List Keyed} {okn:Nat} (he:(arrOf st).toList=P++(u++R)) (ou:∀x∈u,ok x) (h1:1<=okn) (hokn:okn<=u.length) (hs:(u.take okn).Pairwise (Le lt)) {Q:Bool->SortSt->Prop}
  (hQ:∀c st',lZ st st'->(arrOf st').toList=P++(c++R)->qF lt u c->Q true st'):wpS (model prog w) A E s (binarySort' P.length u.length okn) Q st:=by
 rw [binarySort'_eq]
 refine wpS_bind (wpS_forRange (I:=λk c st'=>c.1=none/\lZ st st'/\ ∃d,(arrOf st').toList=P++((d++u.drop k)++R)/\d.length=k/\qF lt (u.take k) d) ?step ?iG ⟨rfl,lZ.refl _,u.take (max okn 1),?_,?_,?_⟩)
 case iG =>
  rintro c st' ⟨hc,S,d,e,hd,hm⟩
  obtain ⟨c1,c2⟩:=c
  cases hc
  rw [Nat.max_eq_left h1,Nat.max_eq_right hokn] at hd hm e
  rw [List.drop_eq_nil_of_le (aaK _),List.append_nil] at e
  rw [List.take_of_length_le (aaK _)] at hm
  exact wpS_pure (hQ d st' S e hm)
 case step =>
  rintro k c st' hk1 hk2 ⟨hc,S,d,e,hd,hm⟩
  obtain ⟨c1,c2⟩:=c
  cases hc
  obtain ⟨x,t,ex⟩:∃x t,u.drop k=x::t:=⟨u[k],u.drop (k+1),List.drop_eq_getElem_cons hk2⟩
  haveI et:u.drop (k+1)=t:=by rw [List.drop_eq_getElem_cons hk2] at ex;exact (List.cons.inj ex).2
  have xu:u[k]? = some x:=by rw [List.drop_eq_getElem_cons hk2] at ex;rw [aal hk2,(List.cons.inj ex).1]
  haveI ox:ok x:=ou x (aaE xu)
  haveI od:∀y∈d,ok y:=λy hy=>ou y (List.mem_of_mem_take (hm.2.mem_iff.mp hy))
  rw [ex] at e
  have e':(arrOf st').toList=P++(d++(x::(t++R))):=by rw [e,aae];rfl
  have kk:kindOf st'=κ:=by rw [S.k,hk]
  have hx:(arrOf st')[P.length+k]? = some x:=by
   rw [<- aaB,e',aar (aaQ _ _),aaC,aar (by exact aK 0x10010211 [_,_] rfl hd),hd,Nat.sub_self];rfl
  dsimp only
  refine wpS_bind (wpS_mono (wpS_forRange (I:=λi c st''=>st''=st'/\ ∃l r,c=(none,l,r)/\l<=r/\r<=k/\r-l<=k-i/\(∀y∈d.take l,Le lt y x)/\(∀y∈d.drop r,lt x y=true))
   (Q:=λc st''=>st''=st'/\ ∃l r,c=(none,l,r)/\l<=k/\(∀y∈d.take l,Le lt y x)/\(∀y∈d.drop l,lt x y=true)) ?istep ?ifin ?iinit) ?ipost)
  case iinit=>exact ⟨rfl,0,k,rfl,by exact aK 0x900 [_] rfl,by exact aK 0x0 [_] rfl,by exact aK 0x0 [_] rfl,λy hy=>by (rw [List.take_zero] at hy;cases hy),λy hy=>by (rw [List.drop_eq_nil_of_le (by exact aK 0x10010211 [_,_] rfl hd)] at hy;cases hy)⟩
  case ifin =>
   rintro c st'' ⟨rfl,l,r,rfl,hlr,hrk,hm',hlo,hhi⟩
   haveI:l=r:=aag hlr (Nat.le_of_sub_eq_zero (Nat.le_zero.mp (by rw [Nat.zero_max,Nat.sub_self] at hm';exact hm')))
   subst this
   exact ⟨rfl,l,l,rfl,hrk,hlo,hhi⟩
  case istep =>
   rintro i c st'' _ hik ⟨rfl,l,r,rfl,hlr,hrk,hm',hlo,hhi⟩
   dsimp only
   by_cases hge:l>=r
   ·rw [if_pos hge]
    have:l=r:=aag (hlr) (hge)
    subst this
    exact wpS_pure ⟨rfl,l,l,rfl,hrk,hlo,hhi⟩
   ·rw [if_neg hge]
    have hb2:=I3 hge
    have hb3:=JH hge hm'
    have hml:(l+r)/2<d.length:=vF 0x312193c01120110313 hd hrk hb2.2
    have hy:d[(l+r)/2]? = some d[(l+r)/2]:=aal hml
    refine bz (d[(l+r)/2]) λy ey=> ?_
    rw [ey] at hy
    haveI hy':(arrOf st'')[P.length+(l+r)/2]? = some y:=by rw [uP e' (hml),hy]
    refine wpS_bind (qE an kk hx hy' ox (od y (aaE hy)) ?_)
    dsimp only
    by_cases hless:lt x y=true
    ·rw [if_pos hless]
     refine wpS_pure ⟨rfl,l,(l+r)/2,rfl,hb2.1,aK 0x120021110212 [_,_,_] rfl hd hml,hb3.1,hlo,λz hz=> ?_⟩
     obtain ⟨j,hj,hj2,ej⟩:=jn hz
     rcases zP hm.1 hj hy ej with h | h
     ·subst h;rw [hy] at ej;cases ej;exact hless
     ·cases q:lt x z with
      | true=>rfl
      | false=>haveI:=an.lin.ntr q h;rw [hless] at this;cases this
    ·rw [if_neg hless]
     refine wpS_pure ⟨rfl,(l+r)/2+1,r,rfl,hb2.2,hrk,hb3.2,λz hz=> ?_,hhi⟩
     obtain ⟨j,hj,ej⟩:=mR hz
     have hless':Le lt y x:=by cases q:lt x y with
      | true=>exact absurd q hless
      | false=>exact q
     rcases zP hm.1 (Nat.le_of_lt_succ hj) ej hy with h | h
     ·subst h;rw [hy] at ej;cases ej;exact hless'
     ·exact an.lin.trans h hless'
  case ipost =>
   rintro c st'' ⟨rfl,l,r,rfl,hlk,hlo,hhi⟩
   dsimp only
   rw [moveDown'_eq]
   have ed:d.take l++d.drop l=d:=aaS l d
   haveI hb:=DY (arr:=arrOf st'') (P:=P) (s:=d.take l) (t:=d.drop l) (x:=x) (R:=t++R) (by rw [ed];exact e')
   rw [ed,hd,List.length_drop,hd] at hb
   refine wpS_bind (wpS_modify (wpS_pure ⟨rfl,S.arr _,d.take l++x::d.drop l,?_,?_,?_⟩))
   ·show (bubble (arrOf st'') (P.length+k) (P.length+k-(P.length+l))).toList=_
    rw [Nat.add_sub_add_left,hb,et,aae (d.take l++x::d.drop l)]
   ·rw [aac,aas,abc,List.length_drop,Nat.min_eq_left (by exact lh 0x20120110312 hd hlk),hd,<- Nat.add_assoc,Nat.add_sub_cancel' hlk]
   ·refine ⟨?_,?_⟩
    ·haveI p:=hm.1
     rw [<- ed] at p
     obtain ⟨p1,p2,p3⟩:=aan.mp p
     refine aan.mpr ⟨p1,aaI.mpr ⟨λy hy=>an.lin.of_lt (hhi y hy),p2⟩,λa ha b hb=> ?_⟩
     rcases aai.mp hb with h | h
     ·rw [h];exact hlo a ha
     ·exact p3 a ha b h
    ·haveI q:u.take (k+1)=u.take k++[x]:=by rw [List.take_add_one,xu];rfl
     rw [q]
     refine List.perm_middle.trans ?_
     rw [ed]
     exact (List.perm_append_singleton x d).symm.trans (hm.2.append_right [x])
 all_goals rw [Nat.max_eq_left h1]
 ·rw [aaS];exact he
 ·rw [abc];exact Nat.min_eq_left hokn
 ·exact ⟨hs,.refl _⟩
end
open PySem PyProof.Rows
section
noncomputable def DT (lo a nrem:Nat):StateT SortSt Sem AscSt :=
 forIn [a:nrem] ((none,a):AscSt) λ_ __s=>do
  let __x <- ltAt' (lo+__s.snd) (lo+__s.snd-1)
  match __x with
  | some smaller=>if smaller=true then pure (ForInStep.done (none,__s.snd)) else pure (ForInStep.yield (none,__s.snd+1))
  | _=>pure (ForInStep.done (some none,__s.snd))
theorem Ci (r:Keyed->Keyed->Prop) (tr:∀ {a b c:Keyed},r a b->r b c->r a c) {W:List Keyed} {a b:Keyed} (h:(W++[a]).Pairwise r) (hab:r a b):(W++[a]++[b]).Pairwise r:=by
 refine aan.mpr ⟨h,abb _ _,λx hx y hy=> ?_⟩
 rw [aaj.mp hy]
 rcases aap.mp hx with hx | hx
 ·exact tr ((aan.mp h).2.2 x hx a (.head _)) hab
 ·rw [aaj.mp hx];exact hab
theorem uh {l:List Keyed} (h:1<=l.length):∃l' a,l=l'++[a]:=⟨l.dropLast,l.getLast (by intro q;rw [q] at h;cases h),(List.dropLast_concat_getLast _).symm⟩
theorem qM {arr:Array Keyed} {l1 l2:List Keyed} {x:Keyed} (e:arr.toList=l1++x::l2) {i:Nat} (hi:i=l1.length):arr[i]? = some x:=by
 rw [<- aaB,e,hi,aar (aaK _),Nat.sub_self];rfl
theorem Ao (an:qG (model prog w) A E s lt ok κ) {st:SortSt} (hk:kindOf st=κ) {P D T:List Keyed} (he:(arrOf st).toList=P++(D++T)) (od:∀x∈D++T,ok x) (h1:1<=D.length) (hs:D.Pairwise (Le lt)) {Q:AscSt->SortSt->Prop}
  (hQ:∀D' T',D++T=D'++T'->1<=D'.length->D'.Pairwise (Le lt)->(T'=[]\/ ∃D0 a b T0,D'=D0++[a]/\T'=b::T0/\lt b a=true)->Q (none,D'.length) st):wpS (model prog w) A E s (DT P.length D.length (D++T).length) Q st:=by
 unfold DT
 refine wpS_forRange (I:=λx c st'=>st'=st/\c=(none,x)/\ ∃D' T',D++T=D'++T'/\D'.length=x/\1<=x/\D'.Pairwise (Le lt)) ?step ?iG ⟨rfl,rfl,D,T,rfl,rfl,h1,hs⟩
 case iG =>
  rintro c st' ⟨rfl,rfl,D',T',e,hd,h1,hs'⟩
  haveI h1':1<=D'.length:=aK 0x1901190110312 [_,_] rfl hd h1
  rw [<- hd]
  haveI hl:D.length<=(D++T).length:=by rw [aac];exact aK 0x10c000 [_,_] rfl
  rw [Nat.max_eq_right hl,e,aac] at hd
  exact hQ D' T' e h1' hs' (.inl (List.eq_nil_of_length_eq_zero (aag (aK 0x91010c0311 [_,_] rfl hd) (aK 0x900 [_] rfl))))
 case step =>
  rintro x c st' hx1 hx2 ⟨rfl,rfl,D',T',e,hd,h1,hs'⟩
  dsimp only
  obtain ⟨D0,a,rfl⟩:=uh (l:=D') (aK 0x1901190110312 [_,_] rfl hd h1)
  cases T' with
  | nil=>rw [e,List.append_nil] at hx2;exact (aK 0x9096012110112 [_,_] rfl hx2 hd).elim
  | cons b T' =>
   haveI e1:(arrOf st').toList=(P++D0)++a::(b::T'):=by rw [he,e];simp only [aae,aa4,List.nil_append]
   haveI e2:(arrOf st').toList=(P++(D0++[a]))++b::T':=by rw [he,e];simp only [aae,aa4,List.nil_append]
   rw [aac,aa2] at hd
   haveI oa:ok a:=od a (by rw [e];exact aaD _ (aau _ (.head _)))
   haveI ob:ok b:=od b (by rw [e];exact aau _ (.head _))
   refine wpS_bind (qE an hk (qM e2 (by simp only [aac,aa2];exact aag (aK 0x190c2c12c01190c311 [_,_,_] rfl hd) (aK 0x12c190c2c01190c211 [_,_,_] rfl hd))) (qM e1 (by simp only [aac];exact aag (aK 0x3c2013c192c211190c312 [_,_,_,_] rfl hd (aab (aK 0x1c190019011 [_,_] rfl h1))) (aK 0x302c0193c12c011190c212 [_,_,_,_] rfl hd (sA _ _)))) ob oa ?_)
   dsimp only
   cases q:lt b a with
   | true =>
    rw [if_pos rfl]
    haveI:=hQ (D0++[a]) (b::T') e (by rw [aac,aa2];exact aK 0x190c1900 [_] rfl) hs' (.inr ⟨D0,a,b,T',rfl,rfl,q⟩)
    rw [aac,aa2,hd] at this
    exact wpS_pure this
   | false =>
    rw [if_neg aaF]
    exact wpS_pure ⟨rfl,rfl,D0++[a]++[b],T',by rw [e];simp only [aae,aa4,List.nil_append],by simp only [aac,aa2];exact aag (aK 0x191c19190cc01190c211 [_,_] rfl hd) (aK 0x19190cc191c01190c311 [_,_] rfl hd),aK 0x190c1900 [_] rfl,Ci (Le lt) an.lin.trans hs' q⟩
noncomputable def wY (lo n nrem:Nat):StateT SortSt Sem (Option Nat):=do
 reverseSlice' lo (lo+n)
 let __s <- DT lo n nrem
 match __s.fst with
 | some r=>pure r
 | none=>pure (some __s.snd)
noncomputable def BK (lo n nrem:Nat):StateT SortSt Sem DescSt :=
 forIn [n:nrem] ((none,n,0):DescSt) λ_ __s=>do
  let __x <- ltAt' (lo+__s.snd.fst) (lo+__s.snd.fst-1)
  match __x with
  | some smaller =>
   if smaller=true then
    if __s.snd.snd>0 then do
     reverseSlice' (lo+__s.snd.fst-(__s.snd.snd+1)) (lo+__s.snd.fst)
     pure (ForInStep.yield (none,__s.snd.fst+1,0))
    else pure (ForInStep.yield (none,__s.snd.fst+1,0))
   else do
    let __x <- ltAt' (lo+__s.snd.fst-1) (lo+__s.snd.fst)
    match __x with
    | some larger =>
     if larger=true then pure (ForInStep.done (none,__s.snd.fst,__s.snd.snd))
     else pure (ForInStep.yield (none,__s.snd.fst+1,__s.snd.snd+1))
    | _=>pure (ForInStep.done (some none,__s.snd.fst,__s.snd.snd))
  | _=>pure (ForInStep.done (some none,__s.snd.fst,__s.snd.snd))
noncomputable def yV (lo n nrem:Nat):StateT SortSt Sem (Option Nat):=do
 liftM (rule "list.sort.descending-run")
 let __s <- BK lo (n+1) nrem
 match __s.fst with
 | some r=>pure r
 | none =>
  if __s.snd.snd>0 then do
   reverseSlice' (lo+__s.snd.fst-(__s.snd.snd+1)) (lo+__s.snd.fst)
   wY lo __s.snd.fst nrem
  else wY lo __s.snd.fst nrem
def Ge (lt:Keyed->Keyed->Bool) (x y:Keyed):Prop:=Le lt y x
theorem tE {st:SortSt} {P D R:List Keyed} {i j:Nat} (e:(arrOf st).toList=P++(D++R)) (hi:i=P.length) (hj:j=P.length+D.length) {Q:Unit->SortSt->Prop}
  (h:∀a:Array Keyed,a.toList=P++(D.reverse++R)->Q () (setArr st a)):wpS (model prog w) A E s (reverseSlice' i j) Q st:=by
 rw [reverseSlice'_eq,hi,hj]
 exact wpS_modify (h _ (EG e))
theorem DC (an:qG (model prog w) A E s lt ok κ) {st0 st:SortSt} (hk:kindOf st=κ) (S:lZ st0 st) {P D T:List Keyed} (he:(arrOf st).toList=P++(D++T)) (od:∀x∈D++T,ok x) (h1:1<=D.length) (hs:D.Pairwise (Ge lt)) {Q:Option Nat->SortSt->Prop}
  (hQ:∀D' T' st',lZ st0 st'->(arrOf st').toList=P++(D'++T')->(D'++T').Perm (D++T)->1<=D'.length->D'.Pairwise (Le lt)->Q (some D'.length) st'):wpS (model prog w) A E s (wY P.length D.length (D++T).length) Q st:=by
 unfold wY
 refine wpS_bind (tE he rfl rfl λa ha=> ?_)
 haveI hl:(D++T).length=(D.reverse++T).length:=by simp only [aac,aa7]
 have hp:(D.reverse++T).Perm (D++T):=(List.reverse_perm D).append_right T
 rw [hl,show D.length=D.reverse.length from aa7.symm]
 refine wpS_bind (Ao an (st:=setArr st a) hk (D:=D.reverse) (T:=T) ha (λx hx=>od x (hp.mem_iff.mp hx)) (by rw [aa7];exact h1) (List.pairwise_reverse.mpr hs) λD' T' e h1 hs' _=> ?_)
 dsimp only
 exact wpS_pure (hQ D' T' _ (S.arr a) (by rw [<- e];exact ha) (by rw [<- e];exact hp) h1 hs')
structure DI (lt:Keyed->Keyed->Bool) (P W:List Keyed) (st st':SortSt) (D Z T:List Keyed):Prop where
 sim:lZ st st'
 arr:(arrOf st').toList=P++(D++(Z++T))
 pos:1<=Z.length
 srt:(D++Z).Pairwise (Ge lt)
 eql:∀a∈Z,∀b∈Z,Le lt a b
 prm:(D++(Z++T)).Perm W
theorem DI.rev {P W D Z T:List Keyed} {st st':SortSt} (h:DI lt P W st st' D Z T) {a:Array Keyed} (ha:a.toList=(P++D)++(Z.reverse++T)):DI lt P W st (setArr st' a) D Z.reverse T:=by
 obtain ⟨s1,s2,s3⟩:=aan.mp h.srt
 refine ⟨h.sim.arr a,?_,?_,?_,?_,?_⟩
 ·show a.toList=_
  rw [ha,aae]
 ·rw [aa7];exact h.pos
 ·refine aan.mpr ⟨s1,?_,λx hx y hy=>s3 x hx y (aax.mp hy)⟩
  refine List.pairwise_of_forall_mem_list λx hx y hy=> ?_
  exact h.eql y (aax.mp hy) x (aax.mp hx)
 ·exact λa ha b hb=>h.eql a (aax.mp ha) b (aax.mp hb)
 ·exact (((List.reverse_perm Z).append_right T).append_left D).trans h.prm
theorem DA (an:qG (model prog w) A E s lt ok κ) {st0 st:SortSt} (hk:kindOf st0=κ) {P W D Z T:List Keyed} (oW:∀x∈W,ok x) (h0:DI lt P W st0 st D Z T) (hz:Z.length=1) {Q:DescSt->SortSt->Prop}
  (hQ:∀D' Z' T' st',DI lt P W st0 st' D' Z' T'->Q (none,D'.length+Z'.length,Z'.length-1) st'):wpS (model prog w) A E s (BK P.length (D.length+1) W.length) Q st:=by
 unfold BK
 refine wpS_forRange (I:=λx c st'=> ∃D' Z' T',DI lt P W st0 st' D' Z' T'/\D'.length+Z'.length=x/\c=(none,x,Z'.length-1)) ?step ?iG ⟨D,Z,T,h0,by rw [hz],by rw [hz]⟩
 case iG =>
  rintro c st' ⟨D',Z',T',h,hx,rfl⟩
  rw [<- hx]
  exact hQ D' Z' T' st' h
 case step =>
  rintro x c st' hx1 hx2 ⟨D',Z',T',h,hx,rfl⟩
  dsimp only
  have kk:kindOf st'=κ:=by rw [h.sim.k,hk]
  cases T' with
  | nil=>haveI:=h.prm.length_eq;simp only [aac,List.length_nil] at this;exact (aK 0x90961093c2c31032c2110113 [_,_,_,_] rfl hx2 hx this).elim
  | cons y T' =>
   obtain ⟨Z0,q,ez⟩:=uh h.pos
   have hzl:Z'.length=Z0.length+1:=by rw [ez,aac,aa2]
   haveI e1:(arrOf st').toList=(P++(D'++Z0))++q::(y::T'):=by rw [h.arr,ez];simp only [aae,aa4,List.nil_append]
   haveI e2:(arrOf st').toList=(P++(D'++Z'))++y::T':=by rw [h.arr];simp only [aae,aa4,List.nil_append]
   have qz:q∈Z':=by rw [ez];exact aau _ (.head _)
   have oq:ok q:=oW q (h.prm.mem_iff.mp (aau _ (aaD _ qz)))
   have oy:ok y:=oW y (h.prm.mem_iff.mp (aau _ (aau _ (.head _))))
   have a1:=qM e1 (i:=P.length+x-1) (by simp only [aac];exact aag (aK 0x30c5c4025c194c21193c121210c313 [_,_,_,_,_,_] rfl hx hzl (aab (aK 0x12c1901190c011 [_,_,_] rfl hx1))) (aK 0x530c4c0195c24c01193c131210c213 [_,_,_,_,_,_] rfl hx hzl (sA _ _)))
   have a2:=qM e2 (i:=P.length+x) (by simp only [aac];exact aag (aK 0x10c3c23c0210c311 [_,_,_,_] rfl hx) (aK 0x23c10c3c0210c211 [_,_,_,_] rfl hx))
   -- one further,strictly below
   have nxt:∀ {st2 D2 Z2},DI lt P W st0 st2 D2 Z2 (y::T')->D2.length+Z2.length=x->(∀z∈Z2,z∈Z')->lt y q=true-> ∃D3 Z3 T3,DI lt P W st0 st2 D3 Z3 T3/\D3.length+Z3.length=x+1/\((none,x+1,0):DescSt)=(none,x+1,Z3.length-1):=λ{st2 D2 Z2} h2 hl hsub hlt=>by
    refine ⟨D2++Z2,[y],T',⟨h2.sim,by rw [h2.arr];simp only [aae,aa4,List.nil_append],aaK _,?_,?_,?_⟩,by simp only [aac,aa2];exact aag (aK 0x192c1910cc0210c211 [_,_,_] rfl hl) (aK 0x1910cc192c0210c311 [_,_,_] rfl hl),rfl⟩
    ·refine aan.mpr ⟨h2.srt,abb _ _,λa ha b hb=> ?_⟩
     rw [aaj.mp hb]
     have lq:∀z∈Z2,Le lt y z:=λz hz=>an.lin.trans (an.lin.of_lt hlt) (h.eql q qz z (hsub z hz))
     rcases aap.mp ha with ha | ha
     ·obtain ⟨z,Z4,e4⟩:∃z Z4,Z2=z::Z4:=by
       cases Z2 with
       | nil=>haveI:=h2.pos;simp at this
       | cons a b=>exact ⟨a,b,rfl⟩
      have zz:z∈Z2:=by rw [e4];exact .head _
      exact an.lin.trans (lq z zz) ((aan.mp h2.srt).2.2 a ha z zz)
     ·exact lq a ha
    ·intro a ha b hb
     rw [aaj.mp ha,aaj.mp hb]
     cases q':lt y y with
     | false=>exact q'
     | true=>have:=an.lin.asym q';rw [q'] at this;cases this
    ·haveI:=h2.prm
     rw [aae]
     exact this
   refine wpS_bind (qE an kk a2 a1 oy oq ?_)
   dsimp only
   cases hl:lt y q with
   | true =>
    rw [if_pos rfl]
    by_cases hn:Z'.length-1>0
    ·rw [if_pos hn]
     haveI e3:(arrOf st').toList=(P++D')++(Z'++y::T'):=by rw [h.arr,aae]
     refine wpS_bind (tE e3 (by rw [aac];exact aag ((Nat.le_total _ _).elim (λy2=>fu [_,_,_,_,_,_] [] 0x5c30194c10125c194c3c21210c313 hx (aab y2) (sA _ _)) (λy2=>lh 0x21c00090211 (aa0 y2))) (fu [_,_,_,_,_,_] [] 0x403c01195c21195c4c23c01210c213 hx (sA _ _) (aab (cu 0x190191c0311 hzl)))) (by rw [aac];exact aag (aK 0x103cc23c0210c311 [_,_,_,_] rfl hx) (aK 0x23c103cc0210c211 [_,_,_,_] rfl hx)) λa ha=> ?_)
     exact wpS_pure (nxt (h.rev ha) (by rw [aa7];exact hx) (λz hz=>aax.mp hz) hl)
    ·rw [if_neg hn]
     exact wpS_pure (nxt h hx (λz hz=>hz) hl)
   | false =>
    rw [if_neg aaF]
    refine wpS_bind (qE an kk a1 a2 oq oy ?_)
    dsimp only
    cases hg:lt q y with
    | true =>
     rw [if_pos rfl]
     haveI:=hQ D' Z' (y::T') st' h
     rw [hx] at this
     exact wpS_pure this
    | false =>
     rw [if_neg aaF]
     have yz:∀z∈Z',Le lt y z/\Le lt z y:=λz hz=>⟨an.lin.trans hg (h.eql q qz z hz),an.lin.trans (h.eql z hz q qz) hl⟩
     refine wpS_pure ⟨D',Z'++[y],T',⟨h.sim,by rw [h.arr];simp only [aae,aa4,List.nil_append],by rw [aac];exact aK 0x20c190191c0311 [_,_,_] rfl hzl,?_,?_,?_⟩,by rw [aac,aa2];exact aag (aK 0x192c191c0c0210c211 [_,_,_] rfl hx) (aK 0x191c0c192c0210c311 [_,_,_] rfl hx),by rw [aac,aa2,hzl];rfl⟩
     ·rw [ez,<- aae D',<- aae D']
      haveI:=h.srt
      rw [ez,<- aae] at this
      exact Ci (Ge lt) (λa b=>an.lin.trans b a) this hg
     ·intro a ha b hb
      rcases aap.mp ha with ha | ha<;>rcases aap.mp hb with hb | hb
      ·exact h.eql a ha b hb
      ·rw [aaj.mp hb];exact (yz a ha).2
      ·rw [aaj.mp ha];exact (yz b hb).1
      ·rw [aaj.mp ha,aaj.mp hb];exact an.lin.trans (yz q qz).1 (yz q qz).2
     ·rw [aae Z'];exact h.prm
theorem xj (an:qG (model prog w) A E s lt ok κ) {st0 st:SortSt} (hk:kindOf st0=κ) {P W D Z T:List Keyed} (oW:∀x∈W,ok x) (h0:DI lt P W st0 st D Z T) (hz:Z.length=1) {Q:Option Nat->SortSt->Prop}
  (hQ:∀D' T' st',lZ st0 st'->(arrOf st').toList=P++(D'++T')->(D'++T').Perm W->1<=D'.length->D'.Pairwise (Le lt)->Q (some D'.length) st'):wpS (model prog w) A E s (yV P.length D.length W.length) Q st:=by
 unfold yV
 refine wpS_bind (wpS_lift (wpAny_rule ⟨rfl,?_⟩))
 refine wpS_bind (DA an hk oW h0 hz λD' Z' T' st' h=> ?_)
 dsimp only
 have go:∀ {st2 Z2},DI lt P W st0 st2 D' Z2 T'->Z2.length=Z'.length->wpS (model prog w) A E s (wY P.length (D'.length+Z'.length) W.length) Q st2:=λ{st2 Z2} h2 hl=>by
  have hp:(D'++Z2++T').Perm W:=by rw [aae];exact h2.prm
  rw [<- hp.length_eq,<- hl,<- aac]
  exact DC an (by rw [h2.sim.k,hk]) h2.sim (by rw [h2.arr,aae]) (λx hx=>oW x (hp.mem_iff.mp hx)) (by rw [aac];haveI:=h2.pos;exact aK 0x1c190019011 [_,_] rfl this) h2.srt λD3 T3 st3 S e p h1 hs=>hQ D3 T3 st3 S e (p.trans hp) h1 hs
 by_cases hn:Z'.length-1>0
 ·rw [if_pos hn]
  haveI e3:(arrOf st').toList=(P++D')++(Z'++T'):=by rw [h.arr,aae]
  refine wpS_bind (tE e3 (by rw [aac];exact aag ((Nat.le_total _ _).elim (λy2=>zI 0x32c00191c40143c2c191c0c212 (aab y2) (sA _ _)) (λy2=>lh 0x21c00090211 (aa0 y2))) ((Nat.le_total _ _).elim (λy2=>zI 0x432c0190c4c13c2c011190c212 (aab y2) (sA _ _)) (λy2=>zI 0x421c0190c4c32c1c0109022009113 hn (aa0 y2) (sA _ _)))) (by rw [aac];exact aag (aK 0x210cc21c0c00 [_,_,_] rfl) (aK 0x21c0c210cc00 [_,_,_] rfl)) λa ha=> ?_)
  exact go (h.rev ha) aa7
 ·rw [if_neg hn]
  exact go h rfl
theorem CU (lo nrem:Nat):countRun' lo nrem=(do
  let __s <- DT lo 1 nrem
  match __s.fst with
  | some r=>pure r
  | none =>
   if (__s.snd==nrem)=true then pure (some __s.snd)
   else if __s.snd>1 then do
    let __x <- ltAt' lo (lo+__s.snd-1)
    match __x with
    | some rose=>if rose=true then pure (some __s.snd) else do
      reverseSlice' lo (lo+__s.snd)
      yV lo __s.snd nrem
    | _=>pure none
   else yV lo __s.snd nrem):=by
 rw [countRun'_eq]
 unfold yV wY BK DT
 simp only []
 congr 1
 funext __s
 obtain ⟨r,n⟩:=__s
 cases r with
 | some r=>rfl
 | none =>
  dsimp only
  split
  ·rfl
  ·split
   ·congr 1
    funext x
    cases x with
    | none=>rfl
    | some rose =>
     dsimp only
     split
     ·rfl
     ·congr 1
      funext _r
      congr 1;funext u;congr 1;congr 1;funext s2;obtain ⟨r2,n2,q2⟩:=s2
      cases r2 with
      | some r2=>rfl
      | none =>
       dsimp only
       split
       ·congr 1;funext v;congr 1;funext w;congr 1;funext s3;obtain ⟨r3,n3⟩:=s3;cases r3<;>rfl
       ·congr 1;funext w;congr 1;funext s3;obtain ⟨r3,n3⟩:=s3;cases r3<;>rfl
   ·congr 1;funext u;congr 1;congr 1;funext s2;obtain ⟨r2,n2,q2⟩:=s2
    cases r2 with
    | some r2=>rfl
    | none =>
     dsimp only
     split
     ·congr 1;funext v;congr 1;funext w;congr 1;funext s3;obtain ⟨r3,n3⟩:=s3;cases r3<;>rfl
     ·congr 1;funext w;congr 1;funext s3;obtain ⟨r3,n3⟩:=s3;cases r3<;>rfl
theorem Dz (an:qG (model prog w) A E s lt ok κ) {st:SortSt} (hk:kindOf st=κ) {P W:List Keyed} (he:(arrOf st).toList=P++W) (oW:∀x∈W,ok x) (h1:1<=W.length) {Q:Option Nat->SortSt->Prop}
  (hQ:∀D T st',lZ st st'->(arrOf st').toList=P++(D++T)->(D++T).Perm W->1<=D.length->D.Pairwise (Le lt)->Q (some D.length) st'):wpS (model prog w) A E s (countRun' P.length W.length) Q st:=by
 rw [CU]
 cases W with
 | nil=>cases h1
 | cons x T =>
 refine wpS_bind (Ao an hk (D:=[x]) (T:=T) he oW (by simp) (abb _ _) λD' T' e h1 hs hb=> ?_)
 have e':x::T=D'++T':=e
 dsimp only
 rw [e'] at he oW
 have hQ':∀D T st',lZ st st'->(arrOf st').toList=P++(D++T)->(D++T).Perm (D'++T')->1<=D.length->D.Pairwise (Le lt)->Q (some D.length) st':=λD T st' a b c d e=>hQ D T st' a b (by rw [e'];exact c) d e
 rw [e']
 by_cases hn:D'.length=(D'++T').length
 ·rw [if_pos (by rw [beq_iff_eq];exact hn)]
  exact wpS_pure (hQ' D' T' st (lZ.refl _) he (.refl _) h1 hs)
 ·rw [if_neg (by rw [beq_iff_eq];exact hn)]
  rcases hb with hb | ⟨D0,a,b,T0,rfl,rfl,hlt⟩
  ·rw [hb,List.append_nil] at hn;exact absurd rfl hn
  ·have e1:(arrOf st).toList=(P++D0)++a::(b::T0):=by rw [he];simp only [aae,aa4,List.nil_append]
   haveI oa:ok a:=oW a (aaD _ (aau _ (.head _)))
   have ir:∀z,Le lt z z:=λz=>by
    cases q:lt z z with
    | false=>exact q
    | true=>have:=an.lin.asym q;rw [q] at this;cases this
   by_cases hn1:(D0++[a]).length>1
   ·rw [if_pos hn1]
    cases D0 with
    | nil=>simp at hn1
    | cons c D1 =>
     haveI oc:ok c:=oW c (aaD _ (.head _))
     refine wpS_bind (qE an hk (qM (l1:=P) (x:=c) (l2:=D1++[a]++b::T0) (by rw [he];simp only [aae,aa4,List.nil_append]) rfl) (qM e1 (by simp only [aac,aa2];exact aag (aK 0x21c00192c1c190c211 [_,_,_] rfl (aab (aK 0x191c0c1900 [_,_] rfl))) (aK 0x210c0192c191c0c011 [_,_,_] rfl (sA _ _)))) oc oa ?_)
     dsimp only
     cases hr:lt c a with
     | true=>exact wpS_pure (hQ' _ _ st (lZ.refl _) he (.refl _) h1 hs)
     | false =>
      rw [if_neg aaF]
      have all:∀y∈c::D1++[a],Le lt y c/\Le lt a y:=λy hy=>by
       have p1:=(aan.mp hs).2.2
       haveI ya:Le lt y a:=by
        rcases aap.mp hy with h | h
        ·exact p1 y h a (.head _)
        ·rw [aaj.mp h];exact ir a
       haveI cy:Le lt c y:=by
        rcases aap.mp hy with h | h
        ·rcases aai.mp h with h | h
         ·rw [h];exact ir c
         ·rw [aa4] at hs
          exact (aaI.mp hs).1 y (aaD _ h)
        ·rw [aaj.mp h];exact p1 c (.head _) a (.head _)
       exact ⟨an.lin.trans ya hr,an.lin.trans hr cy⟩
      refine wpS_bind (tE he rfl rfl λarr ha=> ?_)
      haveI hp:((c::D1++[a]).reverse++([b]++T0)).Perm (c::D1++[a]++b::T0):=(List.reverse_perm _).append_right _
      haveI:=xj an (st0:=st) (st:=setArr st arr) hk (P:=P) (W:=c::D1++[a]++b::T0) (D:=(c::D1++[a]).reverse) (Z:=[b]) (T:=T0) oW
       ⟨(lZ.refl st).arr arr,ha,aaK _,?_,λu hu v hv=>by rw [aaj.mp hu,aaj.mp hv];exact ir b,hp⟩ rfl hQ'
      ·rw [aa7] at this;exact this
      ·refine aan.mpr ⟨?_,abb _ _,λu hu v hv=> ?_⟩
       ·refine List.pairwise_of_forall_mem_list λu hu v hv=> ?_
        haveI u1:=all u (aax.mp hu)
        haveI v1:=all v (aax.mp hv)
        exact an.lin.trans (an.lin.trans v1.1 ((aan.mp hs).2.2 c (.head _) a (.head _))) u1.2
       ·rw [aaj.mp hv]
        exact an.lin.trans (an.lin.of_lt hlt) (all u (aax.mp hu)).2
   ·rw [if_neg hn1]
    cases D0 with
    | cons c D1=>simp at hn1
    | nil =>
     exact xj an (st0:=st) (st:=st) hk (P:=P) (W:=[]++[a]++b::T0) (D:=[a]) (Z:=[b]) (T:=T0) oW
      ⟨lZ.refl st,he,aaK _,aaI.mpr ⟨λy hy=>by rw [aaj.mp hy];exact an.lin.of_lt hlt,abb _ _⟩,λu hu v hv=>by rw [aaj.mp hu,aaj.mp hv];exact ir b,.refl _⟩ rfl hQ'
end
open PySem PyProof.Rows
section
noncomputable def Pd (lt:Keyed->Keyed->Bool):List (Nat×Nat×Nat)->Nat->List Keyed->Prop
 | [],_,c=>c=[]
 | x::p,o,c=> ∃u c',c=u++c'/\x.1=o/\x.2.1=u.length/\1<=u.length/\u.Pairwise (Le lt)/\Pd lt p (o+u.length) c'
theorem Bb:∀ {p1 p2:List (Nat×Nat×Nat)} {o:Nat} {c1 c2:List Keyed},Pd lt p1 o c1->Pd lt p2 (o+c1.length) c2->Pd lt (p1++p2) o (c1++c2)
 | [],p2,o,c1,c2,h1,h2=>by
  have h1:c1=[]:=h1
  rw [h1] at h2 ⊢;exact h2
 | x::p1,p2,o,c1,c2,⟨u,c',e,a,b,d,f,g⟩,h2=>by
  refine ⟨u,c'++c2,by rw [e,aae],a,b,d,f,Bb g ?_⟩
  rw [e,aac,<- Nat.add_assoc] at h2;exact h2
theorem zL:∀ {p1 p2:List (Nat×Nat×Nat)} {o:Nat} {c:List Keyed},Pd lt (p1++p2) o c-> ∃c1 c2,A3 (c=c1++c2) (Pd lt p1 o c1) (Pd lt p2 (o+c1.length) c2)
 | [],p2,o,c,h=>⟨[],c,rfl,rfl,h⟩
 | x::p1,p2,o,c,⟨u,c',e,a,b,d,f,g⟩=>by
  refine bW λY9 y9=> ?_
  obtain ⟨c1,c2,e1,g1,g2⟩:=zL g
  refine y9 ?_
  refine ⟨u++c1,c2,by rw [e,e1,aae],⟨u,c1,rfl,a,b,d,f,g1⟩,?_⟩
  rw [aac,<- Nat.add_assoc];exact g2
theorem ET {f:Nat×Nat×Nat->Nat×Nat×Nat} (hf:∀x,(f x).1=x.1/\(f x).2.1=x.2.1):∀ {p:List (Nat×Nat×Nat)} {i o:Nat} {c:List Keyed},Pd lt p o c->Pd lt (p.modify i f) o c
 | [],i,o,c,h=>by cases i<;>exact h
 | x::p,0,o,c,⟨u,c',e,a,b,d,k,g⟩=>⟨u,c',e,(hf x).1.trans a,(hf x).2.trans b,d,k,g⟩
 | x::p,i+1,o,c,⟨u,c',e,a,b,d,k,g⟩=>⟨u,c',e,a,b,d,k,ET hf g⟩
theorem ES:∀ {p:List (Nat×Nat×Nat)} {o:Nat} {c:List Keyed},Pd lt p o c->p.length<=c.length
 | [],_,_,_=>Nat.zero_le _
 | x::p,o,c,⟨u,c',e,_,_,d,_,g⟩=>by rw [e,aac,aas,Nat.add_comm];exact Nat.add_le_add d (ES g)
structure SI (lt:Keyed->Keyed->Bool) (κ:SortKind) (W:List Keyed) (st:SortSt) (c r:List Keyed):Prop where
 k:kindOf st=κ
 f:failedOf st=none
 a:(arrOf st).toList=c++r
 m:(c++r).Perm W
 p:Pd lt (pendingOf st).toList 0 c
theorem Fy {α:Type}:∀ {l:List α} {i:Nat},i+1<l.length-> ∃p1 x y p2,l=p1++x::y::p2/\p1.length=i
 | [],_,h=>absurd h (Nat.not_lt_zero _)
 | [_],_,h=>absurd (Nat.lt_of_succ_lt_succ h) (Nat.not_lt_zero _)
 | x::y::l,0,_=>⟨[],x,y,l,rfl,rfl⟩
 | x::y::l,i+1,h=>by
  refine bW λY9 y9=> ?_
  obtain ⟨p1,a,b,p2,e,f⟩:=Fy (l:=y::l) (Nat.lt_of_succ_lt_succ h)
  refine y9 ?_
  exact ⟨x::p1,a,b,p2,by rw [e];rfl,by rw [aas,f]⟩
theorem CH (an:qG (model prog w) A E s lt ok κ) {W c r:List Keyed} (oW:∀x∈W,ok x) {st:SortSt} (h:SI lt κ W st c r) {i:Nat} (hi:i+1<(pendingOf st).size) {Q:Bool->SortSt->Prop}
  (hQ:∀c' st',SI lt κ W st' c' r->c'.length=c.length->(pendingOf st').size+1=(pendingOf st).size->Q true st'):wpS (model prog w) A E s (mergeAt' i) Q st:=by
 haveI hl:i+1<(pendingOf st).toList.length:=hi
 refine bW λY9 y9=> ?_
 obtain ⟨p1,x,y,p2,ep,el⟩:=Fy hl
 have hp:=h.p
 rw [ep] at hp
 obtain ⟨c1,_,rfl,g1,u,_,rfl,x1,x2,x3,x4,v,c2,rfl,y1,y2,y3,y4,g2⟩:=zL hp
 obtain ⟨xa,xb,xc⟩:=x
 obtain ⟨ya,yb,yc⟩:=y
 refine y9 ?_
 rw [aa1] at x1 y1 g2
 haveI x1:xa=c1.length:=x1
 haveI x2:xb=u.length:=x2
 haveI y1:ya=c1.length+u.length:=y1
 haveI y2:yb=v.length:=y2
 subst x1 x2 y1 y2
 have oc:∀z∈c1++(u++(v++c2)),ok z:=λz hz=>oW z (h.m.mem_iff.mp (aaD _ hz))
 rw [<- el]
 refine Au an (P:=c1) (R:=c2++r) h.k h.f ep (by rw [h.a];simp only [aae]) x4 y4 (λz hz=>oc z (aau _ (aaD _ hz))) (λz hz=>oc z (aau _ (aau _ (aaD _ hz)))) x3 y3 λm st' k' f' p' a' hm=> ?_
 have hml:m.length=u.length+v.length:=by rw [hm.2.length_eq,aac]
 refine hQ (c1++(m++c2)) st' ⟨k',f',by rw [a'];simp only [aae],?_,?_⟩ ?_ ?_
 ·refine .trans ?_ h.m
  haveI:=((hm.2.append_right c2).append_left c1).append_right r
  simp only [aae] at this ⊢;exact this
 ·rw [p']
  refine Bb g1 ⟨m,c2,rfl,(aa1 _).symm,hml.symm,by rw [hml];exact aao x3 (aaQ _ _),hm.1,?_⟩
  rw [hml,aa1,<- Nat.add_assoc];exact g2
 ·simp only [aac,hml,Nat.add_assoc]
 ·show (pendingOf st').toList.length+1=(pendingOf st).toList.length
  rw [p',ep];simp only [aac,aas];exact aag (aK 0x19191cc0c19191c0cc00 [_,_] rfl) (aK 0x19191c0cc19191cc0c00 [_,_] rfl)
noncomputable def EW (p:Array (Nat×Nat×Nat)):Nat :=
 if Option.any (λx=>decide (x<p[p.size-2+1]?.elim 0 (·.2.1))) (if p.size-2>0 then p[p.size-2-1]?.map (·.2.1) else none)=true then p.size-2-1 else p.size-2
theorem Gp {p:Array (Nat×Nat×Nat)} (h:¬p.size<=1):EW p+1<p.size:=by
 have h2:p.size-2+1<p.size:=aK 0x1190c11290c211 [_,_] rfl (aab (aK 0x290190411 [_] rfl h))
 unfold EW
 generalize Option.any _ _=b
 cases b with
 | true=>exact Nat.lt_of_le_of_lt (Nat.succ_le_succ (Nat.sub_le _ _)) h2
 | false=>exact h2
noncomputable def HG (size:Nat):StateT SortSt Sem Unit:=do
 let c <- forIn [0:size] ((none,()):Option Unit×Unit) λ_ _=>do
  let s <- get
  if (pendingOf s).size<=1 then pure (.done (none,())) else do
   let b <- mergeAt' (EW (pendingOf s))
   if (!b)=true then pure (.done (some (),())) else pure (.yield (none,()))
 match c.1 with
 | some r=>pure r
 | none=>pure ()
noncomputable def I4 (p:Array (Nat×Nat×Nat)) (pw:Nat):StateT SortSt Sem (ForInStep (Option Unit×Unit)) :=
 match (if p.size>1 then p[p.size-2]? else none) with
 | some (_,_,older)=>if older<=pw then pure (.done (none,())) else do
   let b <- mergeAt' (p.size-2)
   if (!b)=true then pure (.done (some (),())) else pure (.yield (none,()))
 | _=>pure (.done (none,()))
noncomputable def Gy (lo n:Nat):StateT SortSt Sem (ForInStep (Option Unit×Nat)):=do
 modify λs=>setPending s ((pendingOf s).push (lo,n,0))
 pure (.yield (none,lo+n))
noncomputable def Ff (pw:Nat) (x:Nat×Nat×Nat):Nat×Nat×Nat:=(x.1,x.2.1,pw)
noncomputable def HC (size lo n pw:Nat):StateT SortSt Sem (ForInStep (Option Unit×Nat)):=do
 let c <- forIn [0:size] ((none,()):Option Unit×Unit) λ_ _=>do
  let s <- get
  I4 (pendingOf s) pw
 match c.1 with
 | some r=>pure (.done (some r,lo))
 | none=>do
  modify λs=>setPending s ((pendingOf s).modify ((pendingOf s).size-1) (Ff pw))
  Gy lo n
noncomputable def Ch (size lo n:Nat):StateT SortSt Sem (ForInStep (Option Unit×Nat)):=do
 let s <- get
 match (pendingOf s).back? with
 | some (s1,n1,_)=>HC size lo n (power' size (2*s1+n1) (2*s1+n1+n1+n) size)
 | _=>Gy lo n
noncomputable def Ij (size mr lo:Nat):StateT SortSt Sem (ForInStep (Option Unit×Nat)):=do
 let r <- countRun' lo (size-lo)
 match r with
 | some found =>
  if found<mr then do
   liftM (rule "list.sort.binary-insertion")
   let b <- binarySort' lo (min (size-lo) mr) found
   if (!b)=true then pure (.done (some (),lo)) else Ch size lo (min (size-lo) mr)
  else Ch size lo found
 | _=>pure (.done (some (),lo))
noncomputable def Hh (size mr:Nat):StateT SortSt Sem Unit:=do
 let c <- forIn [0:size] ((none,0):Option Unit×Nat) λ_ c=>if c.2>=size then pure (.done (none,c.2)) else Ij size mr c.2
 match c.1 with
 | some r=>pure r
 | none=>HG size
theorem GF:sortRuns'=(do
  let s <- get
  Hh (arrOf s).size (minRun' (arrOf s).size (arrOf s).size 0)):=by kernel_rfl
section
variable (an:qG (model prog w) A E s lt ok κ) {W:List Keyed} (oW:∀x∈W,ok x)
include an oW
theorem GQ {st:SortSt} {c:List Keyed} (h:SI lt κ W st c []) {Q:Unit->SortSt->Prop} (hQ:∀c st',failedOf st'=none->(arrOf st').toList=c->qF lt W c->Q () st'):wpS (model prog w) A E s (HG W.length) Q st:=by
 have done:∀ {st'},(∃c,SI lt κ W st' c [])->(pendingOf st').size<=1->Q () st':=λ{st'} ⟨c,h⟩ hs=>by
  haveI hm:=h.m
  haveI ha:=h.a
  rw [List.append_nil] at hm ha
  refine hQ c st' h.f ha ⟨?_,hm⟩
  haveI hs:(pendingOf st').toList.length<=1:=hs
  haveI hp:=h.p
  generalize (pendingOf st').toList=p at hs hp
  match p,hs,hp with
  | [],_,hp=>rw [show c=[] from hp];exact .nil
  | [_],_,⟨u,_,e,_,_,_,g,rfl⟩=>rw [e,List.append_nil];exact g
 unfold HG
 refine wpS_bind (wpS_forRange (I:=λx b st'=>b=(none,())/\ ∃c,SI lt κ W st' c []/\(pendingOf st').size+x<=W.length+1) ?step ?iG ⟨rfl,c,h,?init⟩)
 case init =>
  haveI:=ES h.p
  haveI e:=h.m.length_eq
  rw [List.append_nil] at e
  rw [<- e,Nat.add_zero];exact Nat.le_succ_of_le this
 case iG =>
  rintro b st' ⟨rfl,c,h,hs⟩
  rw [Nat.max_eq_right (Nat.zero_le _),Nat.add_comm] at hs
  exact wpS_pure (done ⟨c,h⟩ (Nat.le_of_add_le_add_left hs))
 case step =>
  rintro x b st' _ hx ⟨rfl,c,h,hs⟩
  refine wpS_bind (wpS_get ?_)
  by_cases hp:(pendingOf st').size<=1
  ·exact fx hp (wpS_pure (wpS_pure (done ⟨c,h⟩ hp)))
  ·refine d8 hp (wpS_bind (CH an oW h (Gp hp) λc' st2 h2 hl hs2=> ?_))
   refine d8 aaF (wpS_pure ⟨rfl,c',h2,?_⟩)
   rw [<- Nat.add_assoc,Nat.add_right_comm,hs2];exact hs
theorem CJ {st:SortSt} {c u r:List Keyed} (h:SI lt κ W st c (u++r)) (h1:1<=u.length) (hu:u.Pairwise (Le lt)) {Q:ForInStep (Option Unit×Nat)->SortSt->Prop} (hQ:∀d st',SI lt κ W st' d r->d.length=c.length+u.length->Q (.yield (none,d.length)) st') :
  wpS (model prog w) A E s (Gy c.length u.length) Q st:=by
 unfold Gy
 refine wpS_bind (wpS_modify (wpS_pure ?_))
 have hl:(c++u).length=c.length+u.length:=aac
 rw [<- hl]
 refine hQ (c++u) _ ⟨h.k,h.f,?_,?_,?_⟩ hl
 ·show (arrOf st).toList=_
  rw [h.a,aae]
 ·rw [aae];exact h.m
 ·show Pd lt ((pendingOf st).push _).toList 0 _
  rw [Array.toList_push]
  exact Bb h.p ⟨u,[],(List.append_nil u).symm,(aa1 _).symm,rfl,h1,hu,rfl⟩
theorem GP {st:SortSt} {c u r:List Keyed} (h:SI lt κ W st c (u++r)) (h1:1<=u.length) (hu:u.Pairwise (Le lt)) {pw:Nat} {Q:ForInStep (Option Unit×Nat)->SortSt->Prop} (hQ:∀d st',SI lt κ W st' d r->d.length=c.length+u.length->Q (.yield (none,d.length)) st') :
  wpS (model prog w) A E s (HC W.length c.length u.length pw) Q st:=by
 unfold HC
 refine wpS_bind (wpS_mono (wpS_forRange (I:=λx b st'=>b=(none,())/\ ∃d,SI lt κ W st' d (u++r)/\d.length=c.length) (Q:=λb st'=>b=(none,())/\ ∃d,SI lt κ W st' d (u++r)/\d.length=c.length) ?step (λ_ _ h=>h) ⟨rfl,c,h,rfl⟩) ?post)
 case step =>
  rintro x b st' _ hx ⟨rfl,d,h,hl⟩
  refine wpS_bind (wpS_get ?_)
  unfold I4
  by_cases hp:(pendingOf st').size>1
  ·rw [if_pos hp]
   obtain ⟨y,hy⟩:∃y,(pendingOf st')[(pendingOf st').size-2]? = some y:=⟨_,Array.getElem?_eq_getElem (Nat.sub_lt (Nat.lt_of_succ_lt hp) ∅)⟩
   rw [hy]
   obtain ⟨y1,y2,y3⟩:=y
   dsimp only
   by_cases hq:y3<=pw
   ·exact fx hq (wpS_pure ⟨rfl,d,h,hl⟩)
   ·refine d8 hq (wpS_bind (CH an oW h (aK 0x1190c11290c211 [_,_] rfl (aab (aK 0x290019111 [_] rfl hp))) λc' st2 h2 hl2 hs2=> ?_))
    exact d8 aaF (wpS_pure ⟨rfl,c',h2,hl2.trans hl⟩)
  ·rw [if_neg hp]
   exact wpS_pure ⟨rfl,d,h,hl⟩
 case post =>
  rintro b st' ⟨rfl,d,h,hl⟩
  refine wpS_bind (wpS_modify ?_)
  rw [<- hl]
  refine CJ an oW (st:=setPending st' ((pendingOf st').modify ((pendingOf st').size-1) (Ff pw))) ⟨h.k,h.f,h.a,h.m,?_⟩ h1 hu λd' st2 h2 hl2=>hQ d' st2 h2 (by rw [hl2,hl])
  show Pd lt ((pendingOf st').modify _ _).toList 0 _
  rw [Array.toList_modify]
  exact ET (f:=Ff pw) (λ_=>⟨rfl,rfl⟩) h.p
theorem Ax {st:SortSt} {c u r:List Keyed} (h:SI lt κ W st c (u++r)) (h1:1<=u.length) (hu:u.Pairwise (Le lt)) {Q:ForInStep (Option Unit×Nat)->SortSt->Prop} (hQ:∀d st',SI lt κ W st' d r->d.length=c.length+u.length->Q (.yield (none,d.length)) st') :
  wpS (model prog w) A E s (Ch W.length c.length u.length) Q st:=by
 unfold Ch
 refine wpS_bind (wpS_get ?_)
 cases (pendingOf st).back? with
 | none=>exact CJ an oW h h1 hu hQ
 | some y=>exact GP an oW h h1 hu hQ
theorem FO {st:SortSt} {c r:List Keyed} {mr:Nat} (h:SI lt κ W st c r) (hr:¬c.length>=W.length) {Q:ForInStep (Option Unit×Nat)->SortSt->Prop} (hQ:∀d r' st',SI lt κ W st' d r'->c.length<d.length->Q (.yield (none,d.length)) st') :
  wpS (model prog w) A E s (Ij W.length mr c.length) Q st:=by
 have hl:=h.m.length_eq
 rw [aac] at hl
 haveI hl2:W.length-c.length=r.length:=by rw [<- hl,aaC]
 haveI hr1:1<=r.length:=aK 0x2190021c3110412 [_,_,_] rfl hr hl
 have or:∀x∈r,ok x:=λx hx=>oW x (h.m.mem_iff.mp (aau _ hx))
 unfold Ij
 rw [hl2]
 refine wpS_bind (Dz an h.k h.a or hr1 λD T st' S ha hp h1 hs=> ?_)
 have hp':(c++(D++T)).Perm W:=(hp.append_left c).trans h.m
 have I:SI lt κ W st' c (D++T):=⟨by rw [S.k];exact h.k,by rw [S.f];exact h.f,ha,hp',by rw [S.p];exact h.p⟩
 dsimp only
 by_cases hm:D.length<mr
 ·refine fx hm (wpS_bind (wpS_lift (wpAny_rule ⟨rfl,?_⟩)))
  have hrl:r.length=(D++T).length:=hp.length_eq.symm
  have hu:((D++T).take (min r.length mr)).length=min r.length mr:=by rw [abc,<- hrl];exact Nat.min_eq_left (Nat.min_le_left _ _)
  have hD:D.length<=min r.length mr:=Nat.le_min.mpr ⟨by rw [hrl,aac];exact aaQ _ _,Nat.le_of_lt hm⟩
  haveI htk:((D++T).take (min r.length mr)).take D.length=D:=by rw [List.take_take,Nat.min_eq_left hD,List.take_left]
  have htd:=aaS (min r.length mr) (D++T)
  generalize (D++T).take (min r.length mr)=u at hu htk htd
  generalize (D++T).drop (min r.length mr)=R at htd
  rw [<- htd] at ha hp' hp
  rw [<- hu]
  refine wpS_bind (Br an I.k (P:=c) (u:=u) (R:=R) ha (λx hx=>or x (hp.mem_iff.mp (aaD _ hx))) h1 (by rw [hu];exact hD) (by rw [htk];exact hs) λm st2 S2 ha2 hm2=> ?_)
  refine d8 aaF ?_
  rw [<- hm2.2.length_eq]
  have h1m:1<=m.length:=by rw [hm2.2.length_eq,hu];exact aao h1 hD
  refine Ax an oW ⟨by rw [S2.k];exact I.k,by rw [S2.f];exact I.f,ha2,((hm2.2.append_right R).append_left c).trans hp',by rw [S2.p];exact I.p⟩ h1m hm2.1 λd st3 h3 hl3=>hQ d _ st3 h3 ?_
  rw [hl3];exact Nat.lt_add_of_pos_right h1m
 ·refine d8 hm (Ax an oW I h1 hs λd st3 h3 hl3=>hQ d _ st3 h3 ?_)
  rw [hl3];exact Nat.lt_add_of_pos_right h1
theorem FP {st:SortSt} (hk:kindOf st=κ) (hf:failedOf st=none) (hp:pendingOf st = #[]) (ha:(arrOf st).toList=W) {Q:Unit->SortSt->Prop}
  (hQ:∀c st',failedOf st'=none->(arrOf st').toList=c->qF lt W c->Q () st'):wpS (model prog w) A E s sortRuns' Q st:=by
 have done:∀ {st' d r},SI lt κ W st' d r->W.length<=d.length->SI lt κ W st' d []:=λ{st' d r} h hl=>by
  haveI:=h.m.length_eq
  rw [aac] at this
  haveI:r=[]:=List.eq_nil_of_length_eq_zero (aag (aK 0x920021c2110012 [_,_,_] rfl hl this) (aK 0x900 [_] rfl))
  rw [this] at h;exact h
 rw [GF]
 refine wpS_bind (wpS_get ?_)
 haveI hsz:(arrOf st).size=W.length:=by rw [<- ha];rfl
 rw [hsz]
 unfold Hh
 refine wpS_bind (wpS_mono (wpS_forRange (I:=λx b st'=> ∃d r,b=(none,d.length)/\SI lt κ W st' d r/\x<=d.length) (Q:=λb st'=>b.1=none/\ ∃d,SI lt κ W st' d []) ?step ?iG ⟨[],W,rfl,⟨hk,hf,ha,.refl _,by rw [hp];rfl⟩,Nat.zero_le _⟩) ?post)
 case post =>
  rintro ⟨b1,b2⟩ st' ⟨hc,d,h⟩
  cases hc
  exact GQ an oW h hQ
 case iG =>
  rintro _ st' ⟨d,r,rfl,h,hx⟩
  rw [Nat.max_eq_right (Nat.zero_le _)] at hx
  exact ⟨rfl,d,done h hx⟩
 case step =>
  rintro x _ st' hx1 hx2 ⟨d,r,rfl,h,hx⟩
  by_cases hr:d.length>=W.length
  ·exact fx hr (wpS_pure ⟨rfl,d,done h hr⟩)
  ·exact d8 hr (FO an oW h hr λd' r' st2 h2 hl=>⟨d',r',rfl,h2,Nat.lt_of_le_of_lt hx hl⟩)
end
end
end
theorem DB {A:Around} {E:Value->Shared->Prop} {s:Shared} {lt:Keyed->Keyed->Bool} {ok:Keyed->Prop} {κ:SortKind} (an:qG G.M A E s lt ok κ) {W:List Keyed} (oW:∀x∈W,ok x) {st:SortSt} (hk:kindOf st=κ) (hf:failedOf st=none) (hp:pendingOf st = #[]) (ha:(arrOf st).toList=W) {Q:Unit->SortSt->Prop}
  (hQ:∀c st',failedOf st'=none->(arrOf st').toList=c->qF lt W c->Q () st'):wpS G.M A E s sortRuns' Q st :=
 (Classical.byContradiction λn=> @Classical.epsilon_spec TT (λt=> ¬t.Goal) ⟨⟨A,E,s,lt,ok,κ⟩,n⟩ λan W oW st hk hf hp ha Q hQ=>FP an oW hk hf hp ha hQ:TT.Goal ⟨A,E,s,lt,ok,κ⟩) an W oW st hk hf hp ha Q hQ
mutual
noncomputable def aM (ι:List Addr) (h:Heap):V->Value->Prop
 | .none,cv=>cv= .none
 | .bool b,cv=>cv= .bool b
 | .int i,cv=> ∃t,cv= .int i t
 | .str x,cv=> ∃t,cv= .str (Str.ofString x) t
 | .ref i,cv=> ∃a,ι[i]? = some a/\cv= .ref a
 | .inst c i,cv=> ∃a x C o,ι[i]? = some a/\G.cls c=some C/\cv= .ref x/\h.get? x=some o/\o.cls= .ref C/\o.dict=some a/\o.data= .plain
 | .exc c,cv=> ∃x C o,G.xcl c=some C/\cv= .ref x/\h.get? x=some o/\o.cls= .ref C/\ ∃vs,o.data= .fields vs
 | .scr,cv=>cv= .ref G.sa
 | .tup xs,cv=> ∃a vs,cv= .ref a/\IsTup h a vs.toArray/\aO ι h xs vs
noncomputable def aO (ι:List Addr) (h:Heap):List V->List Value->Prop
 | [],vs=>vs=[]
 | x::xs,vs=> ∃v vs',vs=v::vs'/\aM ι h x v/\aO ι h xs vs'
end
noncomputable def jL (ι:List Addr) (h:Heap):List (Int×V)->List (Int×Value)->Prop
 | [],vs=>vs=[]
 | x::xs,vs=> ∃v vs',vs=(x.1,v)::vs'/\aM ι h x.2 v/\jL ι h xs vs'
noncomputable def qJ (ι:List Addr) (h:Heap):List (String×V)->List DictEntry->Prop
 | [],es=>es=[]
 | x::xs,es=> ∃t v es',es=⟨PyData.keyHash G.w.params (Str.ofString x.1),.str (Str.ofString x.1) t,v⟩::es'/\aM ι h x.2 v/\qJ ι h xs es'
noncomputable def pE (ι:List Addr) (h:Heap) (a:Addr):O->Prop
 | .list xs=> ∃vs:List Value,h.PlainList a vs.toArray/\aO ι h xs vs
 | .dict es=> ∃kvs,h.DictOf (intKind G.prog G.w) a kvs/\jL ι h es kvs
 | .flds fs=> ∃es n,h.get? a=some (dictOf es n)/\qJ ι h fs es
structure eQ (ι:List Addr) (H:Hp) (h:Heap):Prop where
 keep:G.hB.StaysIn h
 len:ι.length=H.length
 nodup:ι.Nodup
 fresh:∀a∈ι,G.hB.get? a=none
 obj:∀(i:Nat) (a:Addr) (o:O),ι[i]? = some a->H[i]? = some o->pE ι h a o
noncomputable def own (env:Env):List Addr:=env.locals::env.cells.map (·.2)
structure jN (env:Env) (l:bp) (ι:List Addr) (hv hl:Heap):Prop where
 kind:env.scope.kind= .function
 glob:env.globals=mainGlobals
 blt:env.builtins=builtinsNs
 loc:∃m,hl.Ns env.locals m/\ ∀x v,l x=some v->env.kindOf (Str.ofString x)=some .local-> ∃cv,m (Str.ofString x)=some cv/\aM ι hv v cv
 cel:∀x v,l x=some v->(env.kindOf (Str.ofString x)=some .cell\/env.kindOf (Str.ofString x)=some .free) ->
  ∃c o cv,env.cells.lookup (Str.ofString x)=some c/\hv.get? c=some o/\o.data= .cell (some cv)/\aM ι hv v cv
 cells:∀p∈env.cells,∃o ov,hv.get? p.2=some o/\o.data= .cell ov
 ndup:(env.cells.map (·.2)).Nodup
 dis:∀a∈own env,a∉ι
 fresh:∀a∈own env,G.hB.get? a=none
def DE (o:Obj):Prop:=(∃n,o.cls= .type n/\n ≠ "tuple")\/(∃es n,o.data= .dict es n)\/ ∃v,o.data= .cell v
def AB (h h':Heap):Prop:= ∀a o,h.get? a=some o-> ∃o',h'.get? a=some o'
theorem AB.refl (h:Heap):AB h h:=λ_ o e=>⟨o,e⟩
theorem AB.trans {h h' h'':Heap} (x:AB h h') (y:AB h' h''):AB h h'':=λa o e=>let ⟨o',e'⟩:=x a o e;y a o' e'
theorem AB.of_stays {h h':Heap} (k:h.StaysIn h'):AB h h':=λ_ o e=>⟨o,k _ o e⟩
structure Kp (W fr:List Addr) (h h':Heap):Prop where
 size:AB h h'
 up:∀a o,h.get? a=some o->a∉W-> ∃sl,h'.get? a=some { o with slots:=sl }
 ex:∀a o,h.get? a=some o->a∉W->a∉fr->h'.get? a=some o
def oi (h h':Heap):Prop:= ∀a o,h.get? a=some o-> ¬DE o-> ∃sl,h'.get? a=some { o with slots:=sl }
noncomputable def kJ (A:Around):List Addr:=(A.frames.getD []).filterMap (·.frame)
theorem oi.refl (h:Heap):oi h h:=λ_ o e _=>⟨o.slots,e⟩
theorem oi.of_stays {h h':Heap} (k:h.StaysIn h'):oi h h':=λ_ o e _=>⟨o.slots,k _ o e⟩
def sE (A:Around) (h:Heap):Prop:= ∀v,A.handled=some v-> ∃e o C vs,v= .ref e/\h.get? e=some o/\o.cls= .ref C/\o.data= .fields vs/\vs[2]? = some .none
theorem sE.imm {A:Around} {h h':Heap} (x:sE A h) (k:oi h h'):sE A h':=λv hv=>by
 refine bW λY9 y9=> ?_
 obtain ⟨e,o,C,vs,h1,h2,h3,h4,h5⟩:=x v hv
 obtain ⟨sl,e1⟩:=k e o h2 λm=>by
  rcases m with ⟨n,q,_⟩ | ⟨es,n,q⟩ | ⟨w,q⟩
  ·rw [h3] at q;cases q
  ·rw [h4] at q;cases q
  ·rw [h4] at q;cases q
 refine y9 ?_
 exact ⟨e,_,C,vs,h1,e1,h3,h4,h5⟩
section
variable {ι ι':List Addr} {h h':Heap}
theorem getElem?_prefix {α:Type} {l l':List α} (p:l<+:l') {i:Nat} {a:α} (e:l[i]? = some a):l'[i]? = some a:=by
 obtain ⟨t,rfl⟩:=p
 rw [aaw (aaa.mp e).1];exact e
theorem xU {o:Obj} {C:Value} (e:o.cls=C) (h1:∀n,C= .type n->n = "tuple") (h2:(∀es n,o.data≠ .dict es n)/\ ∀v,o.data≠ .cell v):¬DE o:=λm =>
 m.elim (λ⟨n,q,q2⟩=>q2 (h1 n (e.symm.trans q))) λm=>m.elim (λ⟨es,n,q⟩=>h2.1 es n q) λ⟨v,q⟩=>h2.2 v q
mutual
theorem aM.mono (p:ι<+:ι') (k:oi h h'):∀ {v:V} {cv:Value},aM ι h v cv->aM ι' h' v cv
 | .none,_,x=>x
 | .bool _,_,x=>x
 | .int _,_,x=>x
 | .str _,_,x=>x
 | .scr,_,x=>x
 | .ref _,_,x=>by obtain ⟨a,e,q⟩:=x;exact ⟨a,getElem?_prefix p e,q⟩
 | .inst _ _,_,x=>by
  refine bW λY9 y9=> ?_
  obtain ⟨a,x,C,o,e,hc,q,ho,oc,od,oda⟩:=x
  obtain ⟨sl,hs⟩:=k x o ho (xU oc (λ_ h=>(nomatch h)) ⟨λ_ _ h=>(nomatch oda.symm.trans h),λ_ h=>(nomatch oda.symm.trans h)⟩)
  refine y9 ?_
  exact ⟨a,x,C,_,getElem?_prefix p e,hc,q,hs,oc,od,oda⟩
 | .exc _,_,x=>by
  refine bW λY9 y9=> ?_
  obtain ⟨x,C,o,hc,q,ho,oc,vs,od⟩:=x
  obtain ⟨sl,hs⟩:=k x o ho (xU oc (λ_ h=>(nomatch h)) ⟨λ_ _ h=>(nomatch od.symm.trans h),λ_ h=>(nomatch od.symm.trans h)⟩)
  refine y9 ?_
  exact ⟨x,C,_,hc,q,hs,oc,vs,od⟩
 | .tup _,_,x=>by
  refine bW λY9 y9=> ?_
  obtain ⟨a,vs,q,⟨o,ho,oc,n,od⟩,hs⟩:=x
  obtain ⟨sl,h2⟩:=k a o ho (xU oc (λ_ h=>(Value.type.inj h).symm) ⟨λ_ _ h=>(nomatch od.symm.trans h),λ_ h=>(nomatch od.symm.trans h)⟩)
  refine y9 ?_
  exact ⟨a,vs,q,⟨_,h2,oc,n,od⟩,aO.mono p k hs⟩
theorem aO.mono (p:ι<+:ι') (k:oi h h'):∀ {vs:List V} {cvs:List Value},aO ι h vs cvs->aO ι' h' vs cvs
 | [],_,x=>x
 | _::_,_,x=>by obtain ⟨v,vs',q,a,b⟩:=x;exact ⟨v,vs',q,aM.mono p k a,aO.mono p k b⟩
end
theorem Hi:aM ι h .none .none:=rfl
theorem xf (b:Bool):aM ι h (.bool b) (.bool b):=rfl
theorem Aj (i:Int) (t:Tok):aM ι h (.int i) (.int i t):=⟨t,rfl⟩
theorem yD:aO ι h [] []:=rfl
theorem oY {v:V} {cv:Value} {vs:List V} {cvs:List Value} (a:aM ι h v cv) (b:aO ι h vs cvs):aO ι h (v::vs) (cv::cvs):=⟨cv,cvs,rfl,a,b⟩
theorem jL.mono (p:ι<+:ι') (k:oi h h'):∀ {vs:List (Int×V)} {cvs:List (Int×Value)},jL ι h vs cvs->jL ι' h' vs cvs
 | [],_,x=>x
 | _::_,_,z2=>by obtain ⟨v,vs',q,a,b⟩:=z2;exact ⟨v,vs',q,a.mono p k,jL.mono p k b⟩
theorem qJ.mono (p:ι<+:ι') (k:oi h h'):∀ {vs:List (String×V)} {cvs:List DictEntry},qJ ι h vs cvs->qJ ι' h' vs cvs
 | [],_,x=>x
 | _::_,_,z2=>by obtain ⟨t,v,vs',q,a,b⟩:=z2;exact ⟨t,v,vs',q,a.mono p k,qJ.mono p k b⟩
theorem aO.length:∀ {vs:List V} {cvs:List Value},aO ι h vs cvs->cvs.length=vs.length
 | [],_,x=>by rw [show _=_ from x];rfl
 | _::_,_,z2=>by obtain ⟨_,_,q,_,b⟩:=z2;rw [q,aas,aas,aO.length b]
theorem aO.get:∀ {vs:List V} {cvs:List Value},aO ι h vs cvs-> ∀ {i:Nat} {v:V},vs[i]? = some v-> ∃cv,cvs[i]? = some cv/\aM ι h v cv
 | [],_,_,_,_,e=>by simp at e
 | x::xs,_,z2,i,w,e=>by
  obtain ⟨v,vs',q,a,b⟩:=z2
  subst q
  cases i with
  | zero=>simp at e;subst e;exact ⟨v,rfl,a⟩
  | succ i=>simpa using aO.get b (by simpa using e)
theorem aO.append:∀ {vs:List V} {cvs:List Value},aO ι h vs cvs-> ∀ {ws:List V} {cws:List Value},aO ι h ws cws->aO ι h (vs++ws) (cvs++cws)
 | [],_,x,_,_,y=>by rw [show _=[] from x];exact y
 | _::_,_,z2,_,_,y=>by obtain ⟨v,vs',q,a,b⟩:=z2;subst q;exact ⟨v,_,rfl,a,aO.append b y⟩
theorem aO.set:∀ {vs:List V} {cvs:List Value},aO ι h vs cvs-> ∀(i:Nat) {w:V} {cw:Value},aM ι h w cw->aO ι h (vs.set i w) (cvs.set i cw)
 | [],_,x,_,_,_,_=>by rw [show _=[] from x];rfl
 | _::_,_,z2,0,_,_,y=>by obtain ⟨v,vs',q,a,b⟩:=z2;subst q;exact ⟨_,_,rfl,y,b⟩
 | _::_,_,z2,i+1,_,_,y=>by obtain ⟨v,vs',q,a,b⟩:=z2;subst q;exact ⟨_,_,rfl,a,aO.set b i y⟩
theorem aO.take:∀ {vs:List V} {cvs:List Value},aO ι h vs cvs-> ∀(n:Nat),aO ι h (vs.take n) (cvs.take n)
 | [],_,x,n=>by rw [show _=[] from x];simp [aO]
 | _::_,_,z2,0=>by obtain ⟨v,vs',q,a,b⟩:=z2;simp [aO]
 | _::_,_,z2,n+1=>by obtain ⟨v,vs',q,a,b⟩:=z2;subst q;exact ⟨_,_,rfl,a,aO.take b n⟩
theorem aO.drop:∀ {vs:List V} {cvs:List Value},aO ι h vs cvs-> ∀(n:Nat),aO ι h (vs.drop n) (cvs.drop n)
 | [],_,x,n=>by rw [show _=[] from x];simp [aO]
 | _::_,_,z2,0=>by obtain ⟨v,vs',q,a,b⟩:=z2;exact ⟨v,vs',q,a,b⟩
 | _::_,_,z2,n+1=>by obtain ⟨v,vs',q,a,b⟩:=z2;subst q;exact aO.drop b n
end
def nY (fs:List Env) (ι:List Addr) (h:Heap):Prop :=
 ∀env∈fs,env.scope.kind≠ .module/\ ∃L o,env.frame=some L/\h.get? L=some o/\(∃es n,o.data= .dict es n)/\L∉ι/\G.hB.get? L=none
structure ROk (hq:Bool) (k:Nat) (A:Around):Prop where
 hd:hq=true->A.handled=none
 depth:A.depth+3*k<=800
 units:A.units+50*k<=9000
structure j9 (hq:Bool) (k:Nat) (A:Around) (env:Env):Prop extends ROk hq k A where
 fr:∃fenv rest,A.frames=some (fenv::rest)/\fenv.frame=env.frame/\fenv.scope.isGenerator=false/\fenv.scope.isCoroutine=false/\fenv.builtins=builtinsNs/\fenv.globals=mainGlobals
structure cL (A:Around) (env:Env) (ι:List Addr) (q:S) (s:Shared):Prop where
 st:eQ ι q.H s.heap
 fr:jN env q.l ι s.heap s.heap
 fs:nY (A.frames.getD []) ι s.heap
 gens:s.gens = #[]
 os:s.os=G.os
 hn:sE A s.heap
structure aY (A:Around) (env:Env) (ι:List Addr) (s:Shared) (ι':List Addr) (q':S) (s':Shared):Prop where
 pre:ι<+:ι'
 rel:cL A env ι' q' s'
 kp:Kp (own env++ι) (kJ A) s.heap s'.heap
 new:∀a∈ι',a∈ι\/s.heap.get? a=none
inductive yJ (B:Heap) (fs:List Env) (e:Addr) (C fl:Value) (h:Heap):Prop
 | mk (k:B.StaysIn h) (n:B.get? e=none) (f:h.FunFrames B fs) (oe:Obj) (vs:Array Value) (a0:Value) (T:Addr) (oT:Obj) (ts:Array Value) (he:h.get? e=some oe) (hc:oe.cls=C) (hd:oe.data= .fields vs)
   (h0:vs[0]? = some a0) (h2:vs[2]? = some .none) (h1:vs[1]? = some (.ref T)) (nT:B.get? T=none) (Te:T≠e) (hT:h.get? T=some oT) (dT:oT.data= .fields ts) (h3:ts[3]? = some fl)
section
variable {M:Model} {A:Around} {E:Value->Shared->Prop} {s:Shared} {B:Heap} {fs:List Env} {e:Addr} {C fl:Value}
theorem rh {T:Addr} {oT:Obj} {ts:Array Value} {h:Heap} (i:Nat) (x:Value) (hT:h.get? T=some oT) (dT:oT.data= .fields ts) (hk:B.StaysIn h) (nT:B.get? T=none) (hf:h.FunFrames B fs) :
  ∃h',A6 (h'=h.update T (Obj.mapFields (·.setIfInBounds i x))) (B.StaysIn h') (h'.FunFrames B fs) (h.UpToSlots h') (∀b,b≠T->h'.get? b=h.get? b) (∃o',h'.get? T=some o'/\o'.cls=oT.cls/\o'.data= .fields (ts.setIfInBounds i x)):=by
 have oth:∀b,b≠T->(h.update T (Obj.mapFields (·.setIfInBounds i x))).get? b=h.get? b:=λb hb=>Heap.get?_update_other _ _ (Ne.symm hb)
 have nr:∀b o,h.get? b=some o->(∀vs,o.data≠ .fields vs)->b≠T:=λb o hb hn q=>by rw [q,hT] at hb;cases hb;exact hn ts dT
 exact ⟨_,rfl,λb o hb=>(oth b λq=>by rw [q,nT] at hb;cases hb).trans (hk b o hb),hf.of_keeps λb o hb hn=>⟨o,(oth b (nr b o hb hn)).trans hb,rfl⟩,λb o hb hn=>⟨o.slots,(oth b (nr b o hb hn)).trans hb⟩,oth,
  _,Heap.get?_update_self _ hT (Obj.isFreed_of_fields (Obj.data_mapFields dT _)),Obj.cls_mapFields _ _,Obj.data_mapFields dT _⟩
theorem wC {Q:Unit->Shared->Prop} (x:yJ B fs e C fl s.heap) (hQ:∀h',yJ B fs e C .none h'->s.heap.UpToSlots h'->Q () { s with heap:=h' }):wpAny M A (setFlight (.ref e) none) Q E s:=by
 cases x with
 | mk k n f oe vs a0 T oT ts he hc hd h0 h2 h1 nT Te hT dT h3 =>
 have z:=(Array.getElem?_eq_some_iff.mp h3).1
 refine bW λY9 y9=> ?_
 obtain ⟨h',eh,k',f',u,oth,o',g1,g2,g3⟩:=rh 3 .none hT dT k nT f
 refine y9 ?_
 unfold setFlight
 refine wpAny_bind (wpAny_field he hd h1 ?_)
 rw [if_pos (show (Value.ref T != Value.none)=true from by simp)]
 refine wpAny_setField hT dT z ?_
 show Q () { s with heap:=s.heap.update T (Obj.mapFields (·.setIfInBounds 3 .none)) }
 rw [<- eh]
 exact hQ h' ⟨k',n,f',oe,vs,a0,T,o',_,(oth e (Ne.symm Te)).trans he,hc,hd,h0,h2,h1,nT,Te,g1,g3,by simp [z]⟩ u
theorem wA {env:Env} {outer:List Env} {L:Addr} {oe:Obj} {vs:Array Value} {head a0:Value} {hadNext:Bool} {Q:Unit->Shared->Prop} (hfr:A.frames=some (env::outer)) (hl:s.heap.FunFrames B (env::outer)) (hf:env.frame=some L)
  (he:s.heap.get? e=some oe) (hkb:B.StaysIn s.heap) (hen:B.get? e=none) (hd:oe.data= .fields vs) (h0:vs[0]? = some a0) (h2:vs[2]? = some .none)
  (h:∀h',yJ B (env::outer) e oe.cls (rawInt L) h'->s.heap.UpToSlots h'->Q () { s with heap:=h' }) :
  wpAny M A (do let a <- frameOf env;let pl <- entryPlaceOf L hadNext;let b <- EntryCells.newEntry head a .none (rawInt L) .none pl;setField (.ref e) 1 b) Q E s:=by
 haveI ne:e∉(env::outer).filterMap (·.frame):=λhm=>by
  refine bW λY9 y9=> ?_
  obtain ⟨_,o,ho,hn⟩:=hl.mem hm
  refine y9 ?_
  rw [he] at ho;cases ho;exact hn vs hd
 have sz:1<vs.size:=Nat.lt_trans ∅ (Array.getElem?_eq_some_iff.mp h2).1
 refine wpAny_bind (wpAny_frameOf_fun hfr hl hf λh₁ hs=> ?_)
 refine wpAny_bind (wpAny_entryPlaceOf λpl hpl=> ?_)
 unfold EntryCells.newEntry newFields
 refine wpAny_bind (wpAny_newObj_type ?_ (hpl.sizeOk5 _ _ _ _ _))
 generalize hob:({ cls:= .type "traceback",dict:=none,data:= .fields ([head,.ref L,.none,rawInt L,.none]++(if pl.isEmpty then List.replicate 6 Value.none else pl)).toArray }:Obj)=tb
 have e1:h₁.get? e=some oe:=(hs.2.1 e ne).trans he
 have up:s.heap.UpToSlots (h₁.push tb):=λb o hb hn=>let ⟨sl,q⟩:=hs.2.2 b o hb;⟨sl,aak _ q⟩
 haveI kb:B.StaysIn (h₁.push tb):=λb o hb=>aak _ ((hs.2.1 b λhm=>by rw [(hl.mem hm).1] at hb;cases hb).trans (hkb b o hb))
 haveI gT:(h₁.push tb).get? h₁.objs.size=some tb:=aaM _ (by rw [<- hob];rfl)
 haveI nT:B.get? h₁.objs.size=none:=by
  cases q:B.get? h₁.objs.size with
  | none=>rfl
  | some o =>
   haveI:=(hs.2.1 h₁.objs.size λhm=>by rw [(hl.mem hm).1] at q;cases q).trans (hkb _ o q)
   exact absurd (Heap.lt_size this) (Nat.lt_irrefl _)
 have Te:h₁.objs.size≠e:=Nat.ne_of_gt (Heap.lt_size e1)
 refine bW λY9 y9=> ?_
 obtain ⟨h',eh,k',f',u,oth,o',g1,g2,g3⟩:=rh 1 (.ref h₁.objs.size) (aak tb e1) hd kb hen (hl.of_keeps λb o hb hn=>let ⟨sl,q⟩:=up b o hb hn;⟨_,q,rfl⟩)
 refine y9 ?_
 refine wpAny_setField (aak tb e1) hd sz ?_
 show Q () { s with heap:=(h₁.push tb).update e (Obj.mapFields (·.setIfInBounds 1 (.ref h₁.objs.size))) }
 rw [<- eh]
 refine h h' ⟨k',hen,f',o',_,a0,h₁.objs.size,tb,([head,.ref L,.none,rawInt L,.none]++(if pl.isEmpty then List.replicate 6 Value.none else pl)).toArray,g1,g2,g3,?_,?_,by simp [sz],nT,Te,(oth _ Te).trans gT,by rw [<- hob],by first | (simp;done) | (rcases hpl with rfl | ⟨_,_,_,_,_,_,_,rfl⟩<;>simp)⟩ (up.trans u)
 ·rw [Array.getElem?_setIfInBounds_ne ∅];exact h0
 ·rw [Array.getElem?_setIfInBounds_ne ∅];exact h2
theorem wB {env:Env} {outer:List Env} {L:Addr} {oe:Obj} {vs:Array Value} {a0:Value} {Q:Unit->Shared->Prop} (hfr:A.frames=some (env::outer)) (hl:s.heap.FunFrames B (env::outer)) (hf:env.frame=some L)
  (he:s.heap.get? e=some oe) (hkb:B.StaysIn s.heap) (hen:B.get? e=none) (hd:oe.data= .fields vs) (h0:vs[0]? = some a0) (h1:vs[1]? = some .none) (h2:vs[2]? = some .none)
  (h:∀h',yJ B (env::outer) e oe.cls (rawInt L) h'->s.heap.UpToSlots h'->Q () { s with heap:=h' }):wpAny M A (noteFrame (.ref e) env) Q E s:=by
 unfold noteFrame
 simp only [hf]
 refine wpAny_bind (wpAny_field he hd h1 ?_)
 rw [if_neg ∅]
 exact wA hfr hl hf he hkb hen hd h0 h2 h
theorem zh {env:Env} {outer:List Env} {L:Addr} {Q:Unit->Shared->Prop} (hfr:A.frames=some (env::outer)) (hf:env.frame=some L) (x:yJ B (env::outer) e C fl s.heap) (hfl:fl= .none\/fl=rawInt L)
  (h:∀h',yJ B (env::outer) e C (rawInt L) h'->s.heap.UpToSlots h'->Q () { s with heap:=h' }):wpAny M A (noteFrame (.ref e) env) Q E s:=by
 cases x with
 | mk k n f oe vs a0 T oT ts he hc hd h0 h2 h1 nT Te hT dT h3 =>
 subst hc
 unfold noteFrame
 simp only [hf]
 refine wpAny_bind (wpAny_field he hd h1 ?_)
 rw [if_pos (show (Value.ref T != Value.none)=true from by simp)]
 refine wpAny_bind (wpAny_field hT dT h3 ?_)
 rcases hfl with rfl | rfl
 ·rw [if_neg (show ¬((Value.none==rawInt L)=true) from by simp [rawInt])]
  refine bW λY9 y9=> ?_
  obtain ⟨h',eh,k',f',u,oth,o',g1,g2,g3⟩:=rh 3 .none hT dT k nT f
  refine y9 ?_
  refine wpAny_bind (wpAny_setField hT dT (Array.getElem?_eq_some_iff.mp h3).1 ?_)
  rw [<- eh]
  exact wA (s:={ s with heap:=h' }) hfr f' hf ((oth e (Ne.symm Te)).trans he) k' n hd h0 h2 λh'' y u2=>h h'' y (u.trans u2)
 ·rw [if_pos (show (rawInt L==rawInt L)=true from by simp)]
  exact wpAny_pure (h s.heap ⟨k,n,f,oe,vs,a0,T,oT,ts,he,rfl,hd,h0,h2,h1,nT,Te,hT,dT,h3⟩ (Heap.UpToSlots.refl _))
end
inductive xm (B:Heap) (fs:List Env) (L e:Addr) (C:Value) (h:Heap):Prop
 | made (k:B.StaysIn h) (n:B.get? e=none) (f:h.FunFrames B fs) (oe:Obj) (vs:Array Value) (a0:Value) (he:h.get? e=some oe) (hc:oe.cls=C) (hd:oe.data= .fields vs) (h0:vs[0]? = some a0) (h1:vs[1]? = some .none) (h2:vs[2]? = some .none)
 | fly (fl:Value) (x:yJ B fs e C fl h) (hfl:fl= .none\/fl=rawInt L)
theorem xm.keep {B:Heap} {fs:List Env} {L e:Addr} {C:Value} {h:Heap} (x:xm B fs L e C h):B.StaysIn h:=by
 cases x with
 | made k=>exact k
 | fly fl x=>cases x with | mk k=>exact k
inductive Kh (fs:List Env) (fa:List Addr) (env:Env) (ι:List Addr) (h:Heap) (c:String) (ι':List Addr) (q':S) (h':Heap) (ev:Value) (e C:Addr) (B:Heap) (L:Addr):Prop
 | mk (z0:ev= .ref e) (z1:G.xcl c=some C) (z2:env.frame=some L) (z3:xm B fs L e (.ref C) h') (z4:eQ ι' q'.H B) (z5:jN env q'.l ι' B h') (z6:nY fs ι' h') (z7:∀a o,h.get? a=some o->a∉own env++ι->a∉fa->B.get? a=some o)
structure dw (A:Around) (env:Env) (ι:List Addr) (s:Shared) (c:String) (ι':List Addr) (q':S) (s':Shared) (ev:Value):Prop where
 pre:ι<+:ι'
 ex:∃e C B L,Kh (A.frames.getD []) (kJ A) env ι s.heap c ι' q' s'.heap ev e C B L
 size:AB s.heap s'.heap
 up:∀a o,s.heap.get? a=some o->a∉own env++ι-> ∃sl,s'.heap.get? a=some { o with slots:=sl }
 new:∀a∈ι',a∈ι\/s.heap.get? a=none
 gens:s'.gens = #[]
 os:s'.os=G.os
abbrev PT (β:Type):=(β->Shared->Prop)->(Value->Shared->Prop)->Shared->Prop
abbrev mh {β:Type} (A:Around) (t:Sem β):PT β:=λQ E s=>wpAny G.M A t Q E s
def aU (A:Around) (env:Env) (ι:List Addr) (s:Shared) {α β:Type} (r:sG S α) (REL:List Addr->Heap->α->β->Prop) (T:PT β):Prop :=
 match r with
 | .ok a q'=> ∀Q E,(∀ι' b s',aY A env ι s ι' q' s'->REL ι' s'.heap a b->Q b s')->T Q E s
 | .exc c q'=> ∀Q E,(∀ι' ev s',dw A env ι s c ι' q' s' ev->E ev s')->T Q E s
 | .stuck=>True
def Fin (A:Around) (env:Env) (ι:List Addr) (s:Shared) {α β:Type} (r:sG S α) (REL:List Addr->Heap->α->β->Prop) (Q:β->Shared->Prop) (E:Value->Shared->Prop):Prop :=
 match r with
 | .ok a q''=> ∀ι'' b s'',aY A env ι s ι'' q'' s''->REL ι'' s''.heap a b->Q b s''
 | .exc c q''=> ∀ι'' ev s'',dw A env ι s c ι'' q'' s'' ev->E ev s''
 | .stuck=>False
def Sem.Is (hq:Bool) (k:Nat) (env:Env) {α β:Type} (T:Around->PT β) (m:Cm α) (REL:List Addr->Heap->α->β->Prop):Prop :=
 ∀A ι q s,j9 hq k A env->cL A env ι q s->aU A env ι s (m q) REL (T A)
abbrev Ev (hq:Bool) (k:Nat) (env:Env) (e:Expr) (m:Cm V):Prop:=Sem.Is hq k env (λA=>mh A (eval e env)) m (aM)
abbrev Tr (hq:Bool) (k:Nat) (env:Env) (e:Expr) (m:Cm Bool):Prop:=Sem.Is hq k env (λA=>mh A (isTrue e env (eval e env))) m (λ_ _ a b=>a=b)
noncomputable def wn (ι:List Addr) (h:Heap):Fl->Flow->Prop
 | .next,f=>f= .next
 | .ret v,f=> ∃cv,f= .ret cv/\aM ι h v cv
abbrev Ex (hq:Bool) (k:Nat) (env:Env) (st:Stmt) (m:Cm Fl):Prop:=Sem.Is hq k env (λA=>mh A (exec st env)) m (wn)
abbrev DL (hq:Bool) (k:Nat) (env:Env) (st:List Stmt) (m:Cm Fl):Prop:=Sem.Is hq k env (λA=>mh A (execs st env)) m (wn)
section
variable {A:Around} {env:Env} {ι ι' ι'':List Addr} {q q' q'':S} {s s' s'':Shared} {α β γ:Type}
theorem Kp.refl (W fr:List Addr) (h:Heap):Kp W fr h h:=⟨AB.refl _,λ_ o e _=>⟨o.slots,e⟩,λ_ _ e _ _=>e⟩
theorem Kp.of_stays {W fr:List Addr} {h h':Heap} (k:h.StaysIn h'):Kp W fr h h':=⟨AB.of_stays k,λ_ o e _=>⟨o.slots,k _ o e⟩,λ_ _ e _ _=>k _ _ e⟩
theorem qX {a:Addr} {h h':Heap} (n1:∀a∈ι',a∈ι\/h.get? a=none) (sz:AB h h') (n2:∀a∈ι'',a∈ι'\/h'.get? a=none) (ha:a∈ι''):a∈ι\/h.get? a=none :=
 (n2 a ha).elim (n1 a) λx=> .inr (by
  cases e:h.get? a with
  | none=>rfl
  | some o=>obtain ⟨o',e'⟩:=sz a o e;rw [x] at e';cases e')
theorem B9 {W:List Addr} {a:Addr} {o:Obj} {h:Heap} (n1:∀a∈ι',a∈ι\/h.get? a=none) (e:h.get? a=some o) (hW:a∉W++ι):a∉W++ι':=λhm =>
 (aap.mp hm).elim (λx=>hW (aaD _ x)) λx=>(n1 a x).elim (λy=>hW (aau _ y)) λy=>by rw [y] at e;cases e
theorem Kp.trans {W fr:List Addr} {h h' h'':Heap} (n1:∀a∈ι',a∈ι\/h.get? a=none) (x:Kp (W++ι) fr h h') (y:Kp (W++ι') fr h' h''):Kp (W++ι) fr h h'' where
 size:=x.size.trans y.size
 up:=λa o e hW=>by
  obtain ⟨sl,e1⟩:=x.up a o e hW
  obtain ⟨sl2,e2⟩:=y.up a _ e1 (B9 n1 e hW)
  exact ⟨sl2,e2⟩
 ex:=λa o e hW hf=>y.ex a o (x.ex a o e hW hf) (B9 n1 e hW) hf
theorem aY.trans (x:aY A env ι s ι' q' s') (y:aY A env ι' s' ι'' q'' s''):aY A env ι s ι'' q'' s'' where
 pre:=x.pre.trans y.pre
 rel:=y.rel
 kp:=x.kp.trans x.new y.kp
 new:=λ_ ha=>qX x.new x.kp.size y.new ha
theorem aY.transX {c:String} {ev:Value} (x:aY A env ι s ι' q' s') (y:dw A env ι' s' c ι'' q'' s'' ev):dw A env ι s c ι'' q'' s'' ev where
 pre:=x.pre.trans y.pre
 ex:=by
  refine bW λY9 y9=> ?_
  obtain ⟨e,C,B,L,h1,h2,h3,h4,h5,h6,h7,h8⟩:=y.ex
  refine y9 ?_
  exact ⟨e,C,B,L,h1,h2,h3,h4,h5,h6,h7,λa o e hW hf=>h8 a o (x.kp.ex a o e hW hf) (B9 x.new e hW) hf⟩
 size:=x.kp.size.trans y.size
 up:=λa o e hW=>by
  obtain ⟨sl,e1⟩:=x.kp.up a o e hW
  obtain ⟨sl2,e2⟩:=y.up a _ e1 (B9 x.new e hW)
  exact ⟨sl2,e2⟩
 new:=λ_ ha=>qX x.new x.kp.size y.new ha
 gens:=y.gens
 os:=y.os
theorem eQ.mut (x:eQ ι q.H s.heap) {a:Addr} (ha:a∈ι):∃o,s.heap.get? a=some o/\DE o:=by
 obtain ⟨i,hi,rfl⟩:=List.mem_iff_getElem.mp ha
 have hi':i<q.H.length:=x.len▸hi
 have:=x.obj i ι[i] q.H[i] (by simp) (by simp)
 cases ho:q.H[i] with
 | list xs=>rw [ho] at this;obtain ⟨vs,⟨n,e⟩,_⟩:=this;exact ⟨_,e,.inl ⟨"list",rfl,by decide⟩⟩
 | dict es=>rw [ho] at this;obtain ⟨kvs,⟨o,es',ep,e,_,hd,_⟩,_⟩:=this;exact ⟨o,e,.inr (.inl ⟨es',ep,hd⟩)⟩
 | flds fs=>rw [ho] at this;obtain ⟨es,n,e,_⟩:=this;exact ⟨_,e,.inr (.inl ⟨_,_,rfl⟩)⟩
theorem jN.mut {l:bp} {hv hl:Heap} (k:∀b o,hv.get? b=some o->hl.get? b=some o) (x:jN env l ι hv hl) {a:Addr} (ha:a∈own env):∃o,hl.get? a=some o/\DE o:=by
 rcases aai.mp ha with rfl | ha
 ·obtain ⟨m,⟨o,es,ep,ho,hd,_⟩,_⟩:=x.loc
  exact ⟨o,ho,.inr (.inl ⟨es,ep,hd⟩)⟩
 ·obtain ⟨p,hp,rfl⟩:=aaf.mp ha
  obtain ⟨o,ov,ho,hd⟩:=x.cells p hp
  exact ⟨o,k _ _ ho,.inr (.inr ⟨ov,hd⟩)⟩
theorem cL.imm' (R:cL A env ι q s) {h':Heap} (up:∀a o,s.heap.get? a=some o->a∉own env++ι-> ∃sl,h'.get? a=some { o with slots:=sl }):oi s.heap h':=λa o e hm=>up a o e λhW=>by
 rcases aap.mp hW with h | h
 ·obtain ⟨o',e',hm'⟩:=R.fr.mut (λ_ _ e=>e) h
  rw [e] at e';cases e';exact hm hm'
 ·obtain ⟨o',e',hm'⟩:=R.st.mut h
  rw [e] at e';cases e';exact hm hm'
theorem cL.imm (R:cL A env ι q s) {fr:List Addr} {h':Heap} (k:Kp (own env++ι) fr s.heap h'):oi s.heap h':=R.imm' k.up
theorem aY.vrel {v:V} {cv:Value} (R:cL A env ι q s) (P:aY A env ι s ι' q' s') (x:aM ι s.heap v cv):aM ι' s'.heap v cv:=x.mono P.pre (R.imm P.kp)
theorem aU.mono {r:sG S α} {REL:List Addr->Heap->α->β->Prop} {T:PT β} (P:aY A env ι s ι' q' s') (h:aU A env ι' s' r REL T) {Q:β->Shared->Prop} {E:Value->Shared->Prop}
  (hQ:Fin A env ι s r REL Q E):T Q E s':=by
 cases r with
 | ok a q''=>exact h Q E λι'' b s'' x y=>hQ ι'' b s'' (P.trans x) y
 | exc c q''=>exact h Q E λι'' ev s'' x=>hQ ι'' ev s'' (P.transX x)
 | stuck=>exact hQ.elim
theorem aU.imp {r:sG S α} {REL:List Addr->Heap->α->β->Prop} {T T':PT β} (h:aU A env ι s r REL T) (k:∀Q E,T Q E s->T' Q E s):aU A env ι s r REL T':=by
 cases r with
 | ok a q'=>exact λQ E x=>k _ _ (h Q E x)
 | exc c q'=>exact λQ E x=>k _ _ (h Q E x)
 | stuck=>trivial
theorem aU.b {m:Cm α} {f:α->Cm γ} {β':Type} {REL:List Addr->Heap->α->β->Prop} {REL':List Addr->Heap->γ->β'->Prop} {T:PT β} {T':β->PT β'}
  (h:aU A env ι s (m q) REL T)
  (k:∀a q' ι' b s',m q= .ok a q'->aY A env ι s ι' q' s'->REL ι' s'.heap a b->aU A env ι' s' (f a q') REL' (T' b)) :
  aU A env ι s ((m.b f) q) REL' (λQ E s=>T (λb s₁=>T' b Q E s₁) E s):=by
 unfold Cm.b
 cases hm:m q with
 | stuck=>trivial
 | exc c q' =>
  rw [hm] at h
  exact λQ E x=>h _ E x
 | ok a q' =>
  rw [hm] at h
  dsimp only
  have k':=k a q'
  cases hf:f a q' with
  | stuck=>trivial
  | ok c q'' =>
   intro Q E x
   refine h _ E λι' b s' P R=> ?_
   haveI:=k' ι' b s' hm P R
   rw [hf] at this
   exact this Q E λι'' b' s'' P' R'=>x ι'' b' s'' (P.trans P') R'
  | exc c q'' =>
   intro Q E x
   refine h _ E λι' b s' P R=> ?_
   haveI:=k' ι' b s' hm P R
   rw [hf] at this
   exact this Q E λι'' ev s'' P'=>x ι'' ev s'' (P.transX P')
theorem fZ {m:Cm α} {f:α->Cm β} {a:α} (e:m q= .ok a q'):(m.b f) q=f a q':=by unfold Cm.b;rw [e]
theorem cK {m:Cm α} {f:α->Cm β} (e:m q= .stuck):(m.b f) q= .stuck:=by unfold Cm.b;rw [e]
theorem g0 {m:Cm α} {f:α->Cm β} {c:String} (e:m q= .exc c q'):(m.b f) q= .exc c q':=by unfold Cm.b;rw [e]
theorem Df {l:List Addr} (hn:l.Nodup) {i j:Nat} {a:Addr} (hi:l[i]? = some a) (hj:l[j]? = some a):i=j:=by
 obtain ⟨h1,e1⟩:=aaa.mp hi
 obtain ⟨h2,e2⟩:=aaa.mp hj
 have:=List.pairwise_iff_getElem.mp hn
 rcases Nat.lt_trichotomy i j with h | h | h
 ·exact absurd (e1.trans e2.symm) (this i j h1 h2 h)
 ·exact h
 ·exact absurd (e2.trans e1.symm) (this j i h2 h1 h)
theorem pE.there {h:Heap} {a:Addr} {o:O} (x:pE ι h a o):∃o',h.get? a=some o':=by
 cases o with
 | list xs=>obtain ⟨vs,⟨n,e⟩,r⟩:=x;exact ⟨_,e⟩
 | dict es=>obtain ⟨kvs,⟨o,es',ep,e,d⟩,r⟩:=x;exact ⟨_,e⟩
 | flds fs=>obtain ⟨es,n,e,r⟩:=x;exact ⟨_,e⟩
theorem pE.stays {h h':Heap} {a:Addr} {o:O} (p:ι<+:ι') (k:h.StaysIn h') (x:pE ι h a o):pE ι' h' a o:=by
 have im:=oi.of_stays k
 cases o with
 | list xs=>obtain ⟨vs,⟨n,e⟩,r⟩:=x;exact ⟨vs,⟨n,k _ _ e⟩,r.mono p im⟩
 | dict es=>obtain ⟨kvs,d,r⟩:=x;exact ⟨kvs,d.keep k,r.mono p im⟩
 | flds fs=>obtain ⟨es,n,e,r⟩:=x;exact ⟨es,n,k _ _ e,r.mono p im⟩
theorem pE.at {h h':Heap} {a:Addr} {o:O} (p:ι<+:ι') (im:oi h h') (k:∀o,h.get? a=some o->h'.get? a=some o) (x:pE ι h a o):pE ι' h' a o:=by
 cases o with
 | list xs=>obtain ⟨vs,⟨n,e⟩,r⟩:=x;exact ⟨vs,⟨n,k _ e⟩,r.mono p im⟩
 | dict es=>obtain ⟨kvs,⟨o,es',ep,e,d⟩,r⟩:=x;exact ⟨kvs,⟨o,es',ep,k _ e,d⟩,r.mono p im⟩
 | flds fs=>obtain ⟨es,n,e,r⟩:=x;exact ⟨es,n,k _ e,r.mono p im⟩
theorem eQ.stays {H:Hp} {h h':Heap} (x:eQ ι H h) (k:h.StaysIn h'):eQ ι H h' where
 keep:=λb o e=>k b o (x.keep b o e)
 len:=x.len
 nodup:=x.nodup
 fresh:=x.fresh
 obj:=λi a o e1 e2=>(x.obj i a o e1 e2).stays (aam _) k
theorem jN.stays {l:bp} {hv hl hv' hl':Heap} (x:jN env l ι hv hl) (k:hv.StaysIn hv') (k':hl.StaysIn hl'):jN env l ι hv' hl' where
 kind:=x.kind
 glob:=x.glob
 blt:=x.blt
 loc:=let ⟨m,hn,hm⟩:=x.loc;⟨m,hn.keeps k',λy v e e2=>let ⟨cv,a,b⟩:=hm y v e e2;⟨cv,a,b.mono (aam _) (.of_stays k)⟩⟩
 cel:=λy v e e2=>let ⟨c,o,cv,a,b,d,f⟩:=x.cel y v e e2;⟨c,o,cv,a,k _ _ b,d,f.mono (aam _) (.of_stays k)⟩
 cells:=λp hp=>let ⟨o,ov,a,b⟩:=x.cells p hp;⟨o,ov,k _ _ a,b⟩
 ndup:=x.ndup
 dis:=x.dis
 fresh:=x.fresh
theorem nY.stays {fs:List Env} {h h':Heap} (x:nY fs ι h) (k:h.StaysIn h'):nY fs ι h':=λenv he =>
 let ⟨a,L,o,b,c,d⟩:=x env he;⟨a,L,o,b,k _ _ c,d⟩
theorem cL.stays (R:cL A env ι q s) {h':Heap} {tk:Nat} (k:s.heap.StaysIn h'):cL A env ι q { s with heap:=h',toks:=tk } where
 hn:=R.hn.imm (.of_stays k)
 st:=R.st.stays k
 fr:=R.fr.stays k k
 fs:=R.fs.stays k
 gens:=R.gens
 os:=R.os
theorem aY.stays (R:cL A env ι q s) {h':Heap} {tk:Nat} (k:s.heap.StaysIn h'):aY A env ι s ι q { s with heap:=h',toks:=tk } where
 pre:=aam _
 rel:=R.stays k
 kp:= .of_stays k
 new:=λ_ ha=> .inl ha
theorem aY.refl (R:cL A env ι q s):aY A env ι s ι q s where
 pre:=aam _
 rel:=R
 kp:= .refl _ _ _
 new:=λ_ ha=> .inl ha
theorem aY.toks (R:cL A env ι q s) (tk:Nat):aY A env ι s ι q { s with toks:=tk }:=aY.stays (h':=s.heap) R λ_ _ e=>e
theorem aU.ret {a:α} {b:β} {REL:List Addr->Heap->α->β->Prop} {T:PT β} {tk:Nat} (R:cL A env ι q s) (hR:REL ι s.heap a b) (hT:∀Q E,Q b { s with toks:=tk }->T Q E s) :
  aU A env ι s (.ok a q) REL T:=λ_ _ x=>hT _ _ (x ι b _ (aY.toks R tk) hR)
theorem aU.ret0 {a:α} {b:β} {REL:List Addr->Heap->α->β->Prop} {T:PT β} (R:cL A env ι q s) (hR:REL ι s.heap a b) (hT:∀Q E,Q b s->T Q E s) :
  aU A env ι s (.ok a q) REL T:=λ_ _ x=>hT _ _ (x ι b _ (aY.refl R) hR)
theorem aU.grew {a:α} {b:β} {REL:List Addr->Heap->α->β->Prop} {T:PT β} {h':Heap} {tk:Nat} (R:cL A env ι q s) (k:s.heap.StaysIn h') (hR:REL ι h' a b)
  (hT:∀Q E,Q b { s with heap:=h',toks:=tk }->T Q E s):aU A env ι s (.ok a q) REL T:=λ_ _ x=>hT _ _ (x ι b _ (aY.stays R k) hR)
theorem cL.fresh_ne (R:cL A env ι q s) {a:Addr} (ha:s.heap.get? a=none):A3 (a∉ι) (a∉own env) (G.hB.get? a=none):=by
 refine ⟨λh=> ?_,λh=> ?_,?_⟩
 ·obtain ⟨o,e,_⟩:=R.st.mut h;rw [ha] at e;cases e
 ·obtain ⟨o,e,_⟩:=R.fr.mut (λ_ _ e=>e) h;rw [ha] at e;cases e
 ·cases e:G.hB.get? a with
  | none=>rfl
  | some o=>have:=R.st.keep _ _ e;rw [ha] at this;cases this
theorem aY.alloc (R:cL A env ι q s) {h':Heap} {tk:Nat} {a:Addr} {o:O} (k:s.heap.StaysIn h') (ha:s.heap.get? a=none) (ho:pE (ι++[a]) h' a o) :
  aY A env ι s (ι++[a]) { q with H:=q.H++[o] } { s with heap:=h',toks:=tk }:=by
 have pre:ι<+:ι++[a]:=aav _ _
 have im:=oi.of_stays k
 obtain ⟨n1,n2,n3⟩:=R.fresh_ne ha
 have R':=R.stays (tk:=tk) k
 refine ⟨pre,⟨⟨R'.st.keep,by simp [R.st.len],?_,?_,?_⟩,⟨R'.fr.kind,R'.fr.glob,R'.fr.blt,?_,?_,R'.fr.cells,R'.fr.ndup,?_,R'.fr.fresh⟩,?_,R.gens,R.os,R.hn.imm im⟩,(.of_stays k),?_⟩
 ·exact List.nodup_append.mpr ⟨R.st.nodup,by simp,λx hx y hy=>by simp at hy;subst hy;exact λe=>n1 (e▸hx)⟩
 ·intro x hx
  rcases aap.mp hx with h | h
  ·exact R.st.fresh x h
  ·simp at h;subst h;exact n3
 ·intro i x y e1 e2
  by_cases hi:i<ι.length
  ·rw [aaw hi] at e1
   rw [aaw (R.st.len▸hi)] at e2
   exact (R.st.obj i x y e1 e2).stays pre k
  ·haveI hi':i=ι.length:=by
    haveI:=(aaa.mp e1).1
    simp at this;exact aag (cu 0x100191c0111 this) (cu 0x1010511 hi)
   subst hi'
   simp at e1;subst e1
   rw [R.st.len] at e2;simp at e2;subst e2
   exact ho
 ·obtain ⟨m,hn,hm⟩:=R.fr.loc
  exact ⟨m,hn.keeps k,λy v e e2=>let ⟨cv,a,b⟩:=hm y v e e2;⟨cv,a,b.mono pre im⟩⟩
 ·exact λy v e e2=>let ⟨c,o,cv,a,b,d,f⟩:=R.fr.cel y v e e2;⟨c,o,cv,a,k _ _ b,d,f.mono pre im⟩
 ·intro x hx hm
  rcases aap.mp hm with h | h
  ·exact R.fr.dis x hx h
  ·simp at h;subst h;exact n2 hx
 ·intro env' he
  refine bW λY9 y9=> ?_
  obtain ⟨b1,L,o',b2,b3,b4,b5,b6⟩:=R.fs env' he
  refine y9 ?_
  refine ⟨b1,L,o',b2,k _ _ b3,b4,λhm=> ?_,b6⟩
  rcases aap.mp hm with h | h
  ·exact b5 h
  ·simp at h;subst h;rw [ha] at b3;cases b3
 ·intro x hx
  rcases aap.mp hx with h | h
  ·exact .inl h
  ·simp at h;subst h;exact .inr ha
theorem aU.alloc {b:β} {v:α} {REL:List Addr->Heap->α->β->Prop} {T:PT β} {h':Heap} {tk:Nat} {a:Addr} {o:O} (R:cL A env ι q s) (k:s.heap.StaysIn h') (ha:s.heap.get? a=none)
  (ho:pE (ι++[a]) h' a o) (hR:REL (ι++[a]) h' v b) (hT:∀Q E,Q b { s with heap:=h',toks:=tk }->T Q E s):aU A env ι s (.ok v { q with H:=q.H++[o] }) REL T :=
 λ_ _ x=>hT _ _ (x _ b _ (aY.alloc R k ha ho) hR)
theorem aY.set (R:cL A env ι q s) {h':Heap} {tk:Nat} {i:Nat} {a:Addr} {o':O} (hi:ι[i]? = some a) (hs:Heap.SameBut a s.heap h') (im:oi s.heap h'->pE ι h' a o') :
  aY A env ι s ι { q with H:=q.H.set i o' } { s with heap:=h',toks:=tk }:=by
 have ha:a∈ι:=aaE hi
 obtain ⟨oa,ea,hma⟩:=R.st.mut ha
 have ext:=hs.extBut
 have ne:∀b o,s.heap.get? b=some o->b∉ι->h'.get? b=some o:=λb o e hb=>ext b o (λq=>hb (q▸ha)) e
 have im':=R.imm' (h':=h') λb o e hW=>⟨o.slots,ne b o e λx=>hW (aau _ x)⟩
 have im:=im im'
 haveI kp:Kp (own env++ι) (kJ A) s.heap h':=⟨λb o e=>by
   by_cases hb:b=a
   ·subst hb;exact im.there
   ·exact ⟨o,ext b o hb e⟩,λb o e hW=>⟨o.slots,ne b o e λx=>hW (aau _ x)⟩,λb o e hW _=>ne b o e λx=>hW (aau _ x)⟩
 have pr:ι<+:ι:=aam _
 refine ⟨pr,⟨⟨?_,by simp [R.st.len],R.st.nodup,R.st.fresh,?_⟩,⟨R.fr.kind,R.fr.glob,R.fr.blt,?_,?_,?_,R.fr.ndup,R.fr.dis,R.fr.fresh⟩,?_,R.gens,R.os,R.hn.imm im'⟩,kp,λ_ h=> .inl h⟩
 ·intro b o e
  exact ext b o (λq=>by rw [q,R.st.fresh a ha] at e;cases e) (R.st.keep b o e)
 ·intro j x y e1 e2
  dsimp only at e2
  by_cases hj:i=j
  ·subst hj
   rw [hi] at e1;cases e1
   have:i<q.H.length:=R.st.len▸(aaa.mp hi).1
   rw [aaA this] at e2;cases e2
   exact im
  ·rw [aaO hj] at e2
   refine (R.st.obj j x y e1 e2).at pr im' λo e=>ext x o (λq=>hj ?_) e
   subst q
   exact Df R.st.nodup hi e1
 ·obtain ⟨m,hn,hm⟩:=R.fr.loc
  haveI hL:env.locals≠a:=λq=>R.fr.dis env.locals (.head _) (q▸ha)
  exact ⟨m,hn.extBut ext hL,λy v e e2=>let ⟨cv,a,b⟩:=hm y v e e2;⟨cv,a,b.mono pr im'⟩⟩
 ·intro y v e e2
  refine bW λY9 y9=> ?_
  obtain ⟨c,o,cv,h1,h2,h3,h4⟩:=R.fr.cel y v e e2
  refine y9 ?_
  haveI hc:c∈own env:=List.mem_cons_of_mem _ (aaf.mpr ⟨_,bC h1,rfl⟩)
  exact ⟨c,o,cv,h1,ne c o h2 (R.fr.dis c hc),h3,h4.mono pr im'⟩
 ·intro p hp
  refine bW λY9 y9=> ?_
  obtain ⟨o,ov,h1,h2⟩:=R.fr.cells p hp
  refine y9 ?_
  exact ⟨o,ov,ne p.2 o h1 (R.fr.dis p.2 (List.mem_cons_of_mem _ (aaf.mpr ⟨p,hp,rfl⟩))),h2⟩
 ·intro env' he
  refine bW λY9 y9=> ?_
  obtain ⟨b1,L,o',b2,b3,b4,b5,b6⟩:=R.fs env' he
  refine y9 ?_
  exact ⟨b1,L,o',b2,ne L o' b3 b5,b4,b5,b6⟩
where
 bC {α β:Type} [BEq α] [LawfulBEq α] {x:α} {y:β}:∀ {l:List (α×β)},l.lookup x=some y->(x,y)∈l
  | [],e=>by simp at e
  | (a,b)::r,e=>by
   rw [List.lookup_cons] at e
   split at e
   ·rename_i q;cases e;rw [eq_of_beq q];exact .head _
   ·exact .tail _ (bC e)
theorem aU.set {b:β} {v:α} {REL:List Addr->Heap->α->β->Prop} {T:PT β} {h':Heap} {tk:Nat} {i:Nat} {a:Addr} {o':O} (R:cL A env ι q s) (hi:ι[i]? = some a) (hs:Heap.SameBut a s.heap h')
  (im:oi s.heap h'->pE ι h' a o') (hR:oi s.heap h'->REL ι h' v b) (hT:∀Q E,Q b { s with heap:=h',toks:=tk }->T Q E s):aU A env ι s (.ok v { q with H:=q.H.set i o' }) REL T:=by
 have P:=aY.set (tk:=tk) R hi hs im
 exact λ_ _ x=>hT _ _ (x _ b _ P (hR (R.imm P.kp)))
end
theorem IM {k:Int} (h:k<16000000):k<2 ^ 63:=Int.lt_trans h ∅
theorem J5 {k:Int} (h:0<=k) : -2 ^ 63<=k:=aa8 ∅ h
theorem JS {n:Nat} (h:n<16000000):(n:Int)<2 ^ 63:=IM (Int.ofNat_lt.mpr h)
theorem JJ {x:Int} (a:0<=x) (b:x<16000000) : -9223372036854775808<=x/\x<9223372036854775808:=⟨aa8 ∅ a,Int.lt_trans b ∅⟩
section
variable {hq:Bool} {k:Nat} {env:Env}
noncomputable def af (x:String):Cm V:=λq=>match q.l x with | some v=> .ok v q | none=> .stuck
theorem aa {x:String} {pos:Pos} (hx:env.kindOf (Str.ofString x)=some .local:=by kernel_rfl) (hd:(Str.ofString x==("__debug__" : Str))=false:=by kernel_rfl):Ev hq k env (.Name (Str.ofString x) pos) (af x):=by
 intro A ι q s ha R
 unfold af
 cases h:q.l x with
 | none=>trivial
 | some v =>
  refine bW λY9 y9=> ?_
  obtain ⟨m,hn,hm⟩:=R.fr.loc
  obtain ⟨cv,h1,h2⟩:=hm x v h hx
  refine y9 ?_
  exact aU.ret0 R h2 λQ E hQ=>wpAny_Name (wpAny_loadName_local R.fr.kind hx hn h1 hQ) hd
theorem aR {x:String} {pos:Pos} (hx:env.kindOf (Str.ofString x)=some .cell:=by kernel_rfl) (hd:(Str.ofString x==("__debug__" : Str))=false:=by kernel_rfl):Ev hq k env (.Name (Str.ofString x) pos) (af x):=by
 intro A ι q s ha R
 unfold af
 cases h:q.l x with
 | none=>trivial
 | some v =>
  refine bW λY9 y9=> ?_
  obtain ⟨c,o,cv,h1,h2,h3,h4⟩:=R.fr.cel x v h (.inl hx)
  refine y9 ?_
  exact aU.ret0 R h4 λQ E hQ=>wpAny_Name (wpAny_loadName_cell R.fr.kind hx h1 ⟨o,h2,h3⟩ hQ) hd
theorem ar {i:Int} {kk:Nat} {pos:Pos}:Ev hq k env (.Constant (.int i) kk pos) (.p (.int i)) :=
 λ_ _ _ _ _ R=>aU.ret R ⟨_,rfl⟩ λ_ _ hQ=>wpAny_Constant_int hQ
theorem tI {kk:Nat} {pos:Pos}:Ev hq k env (.Constant .none kk pos) (.p .none) :=
 λ_ _ _ _ _ R=>aU.ret0 R Hi λ_ _ hQ=>wpAny_Constant_none hQ
theorem cG {b:Bool} {kk:Nat} {pos:Pos}:Ev hq k env (.Constant (.bool b) kk pos) (.p (.bool b)) :=
 λ_ _ _ _ _ R=>aU.ret0 R (xf b) λ_ _ hQ=>wpAny_Constant_bool hQ
theorem lE {x:String} {kk:Nat} {pos:Pos}:Ev hq k env (.Constant (.str (Str.ofString x)) kk pos) (.p (.str x)) :=
 λ_ _ _ _ _ R=>aU.ret R ⟨_,rfl⟩ λ_ _ hQ=>wpAny_Constant_str hQ
theorem AC (C:bL G) {x:String} {i:Int} {t:Tok} {pos:Pos} (hx:env.kindOf (Str.ofString x)=some .globalImplicit) (hv:nsIn G.K mainGlobals (Str.ofString x)=some (some (.int i t)))
  (hd:(Str.ofString x==("__debug__" : Str))=false):Ev hq k env (.Name (Str.ofString x) pos) (.p (.int i)) :=
 λ_ _ _ _ _ R=>aU.ret0 R ⟨t,rfl⟩ λ_ _ hQ=>Calls.Name_function_global R.fr.kind hx
  (Calls.loadGlobal_global (by rw [R.fr.glob];exact C.g.keeps R.st.keep) (mg_of C.X C.g hv) hQ) hd
theorem jU (C:bL G) {A:Around} {ι:List Addr} {q:S} {s:Shared} (R:cL A env ι q s) {x:Str} {v:Value} {pos:Pos} (hx:env.kindOf x=some .globalImplicit) (hv:nsIn G.K mainGlobals x=some (some v))
  (hd:(x==("__debug__" : Str))=false) {Q:Value->Shared->Prop} {E:Value->Shared->Prop} (h:Q v s):wpAny G.M A (eval (.Name x pos) env) Q E s :=
 Calls.Name_function_global R.fr.kind hx (Calls.loadGlobal_global (by rw [R.fr.glob];exact C.g.keeps R.st.keep) (mg_of C.X C.g hv) h) hd
theorem mw (C:bL G) {A:Around} {ι:List Addr} {q:S} {s:Shared} (R:cL A env ι q s) {x:Str} {v:Value} {pos:Pos} (hx:env.kindOf x=some .globalImplicit) (hv:nsIn G.K mainGlobals x=some none)
  (hb:bootBuiltins x=some v) (hn:x ≠ "__name__") (hd:(x==("__debug__" : Str))=false) {Q:Value->Shared->Prop} {E:Value->Shared->Prop} (h:Q v s):wpAny G.M A (eval (.Name x pos) env) Q E s :=
 Calls.Name_function_global R.fr.kind hx (Calls.loadGlobal_builtin (by rw [R.fr.glob];exact C.g.keeps R.st.keep) (mg_none_of C.X C.g hv)
  (by rw [R.fr.blt];exact C.b.keeps R.st.keep) ((C.bt x hn).trans hb) h) hd
abbrev wq (T:Around->Value->Value->PT Value) (f:V->V->Cm V):Prop :=
 ∀A env ι q s a b ca cb,bL G->(∃hq k,j9 hq k A env)->cL A env ι q s->aM ι s.heap a ca->aM ι s.heap b cb->aU A env ι s (f a b q) (aM) (T A ca cb)
theorem aC (C:bL G) {l r:Expr} {op:Operator} {pos:Pos} {m1 m2:Cm V} {f:V->V->Cm V} (h1:Ev hq k env l m1) (h2:Ev hq k env r m2)
  (hf:wq (λA a b=>mh A (binaryOp op a b)) f):Ev hq k env (.BinOp l op r pos) (m1.b λa=>m2.b λb=>f a b) :=
 λA ι q s ha R=>(aU.b (h1 A ι q s ha R) λa q' ι' b s' _ P hv=>aU.b (T':=λb' Q E s₂=>wpAny G.M A (binaryOp op b b') Q E s₂) (h2 A ι' q' s' ha P.rel) λa2 q2 ι2 b2 s2 _ P2 hv2 =>
  hf A env ι2 q2 s2 a a2 b b2 C ⟨_,_,ha⟩ P2.rel (P2.vrel P.rel hv) hv2).imp λQ E x=>wpAny_BinOp x
theorem j9.pylong (C:bL G) {A:Around} {ι:List Addr} {q:S} {s:Shared} (ha:∃hq k,j9 hq k A env) (R:cL A env ι q s):PylongRoom G.M A s:=by
 refine bW λY9 y9=> ?_
 obtain ⟨hq,k,ha⟩:=ha
 obtain ⟨fenv,rest,h1,h2,h3,h4,h5,h6⟩:=ha.fr
 refine y9 ?_
 refine PylongRoom.of (C.lim.keeps R.st.keep) ?_ (SeerAt.of (C.seer.keeps R.st.keep) C.tree h1 h3 h4 h5 h6)
 exact Nat.lt_of_le_of_lt (Nat.add_le_add (aao (aaQ _ _) ha.depth) (by decide:Builtin.pylongFrames<=150)) (by decide:800+150<1000)
noncomputable def dq:V->V->Cm V
 | .int i,.int j=> .p (.int (i+j))
 | .str x,.str y=>if x.length+y.length<=100000 then .p (.str (x++y)) else .stk
 | .ref i,.ref j=>λq=>match q.H[i]?,q.H[j]? with
  | some (.list xs),some (.list ys)=>if xs.length+ys.length<=1000000 then .ok (.ref q.H.length) { q with H:=q.H++[.list (xs++ys)] } else .stuck
  | _,_=> .stuck
 | _,_=> .stk
noncomputable def Bm:V->V->Cm V
 | .int i,.int j=> .p (.int (i-j))
 | _,_=> .stk
noncomputable def ik:V->V->Cm V
 | .int i,.int j=>haveI:=Classical.propDecidable (IntMulOk i j);if IntMulOk i j then .p (.int (i*j)) else .stk
 | .ref i,.int n=>λq=>match q.H[i]? with
  | some (.list xs)=>if xs.length=1/\0<=n/\n<=1000000 then .ok (.ref q.H.length) { q with H:=q.H++[.list (List.replicate n.toNat xs).flatten] } else .stuck
  | _=> .stuck
 | _,_=> .stk
noncomputable def cT:V->V->Cm V
 | .int i,.int j=>if j=0 then .stk else .p (.int (i.fdiv j))
 | _,_=> .stk
noncomputable def bS:V->V->Cm V
 | .int i,.int j=>if j=0 then .stk else .p (.int (i.fmod j))
 | _,_=> .stk
theorem yM:wq (λA a b=>mh A (binaryOp .Sub a b)) Bm:=by
 intro A env ι q s a b ca cb C ha R h1 h2
 cases a with
 | int i =>
  cases b with
  | int j =>
   obtain ⟨t,rfl⟩:=h1;obtain ⟨u,rfl⟩:=h2
   exact aU.ret R ⟨_,rfl⟩ λQ E hQ=>P.sub_int hQ
  | _=>trivial
 | _=>trivial
theorem dG:wq (λA a b=>mh A (binaryOp .FloorDiv a b)) cT:=by
 intro A env ι q s a b ca cb C ha R h1 h2
 cases a with
 | int i =>
  cases b with
  | int j =>
   obtain ⟨t,rfl⟩:=h1;obtain ⟨u,rfl⟩:=h2
   unfold cT;dsimp only
   split
   ·trivial
   ·exact aU.ret R ⟨_,rfl⟩ λQ E hQ=>floordiv_int (by assumption) hQ (.inr (j9.pylong C ha R))
  | _=>trivial
 | _=>trivial
theorem cJ:wq (λA a b=>mh A (binaryOp .Mod a b)) bS:=by
 intro A env ι q s a b ca cb C ha R h1 h2
 cases a with
 | int i =>
  cases b with
  | int j =>
   obtain ⟨t,rfl⟩:=h1;obtain ⟨u,rfl⟩:=h2
   unfold bS;dsimp only
   split
   ·trivial
   ·exact aU.ret R ⟨_,rfl⟩ λQ E hQ=>mod_int' (by assumption) hQ
  | _=>trivial
 | _=>trivial
theorem eQ.list {ι:List Addr} {H:Hp} {h:Heap} (x:eQ ι H h) {i:Nat} {xs:List V} (e:H[i]? = some (.list xs)):∃a n vs,A3 (ι[i]? = some a) (IsL h a (List.toArray vs) n) (aO ι h xs vs):=by
 have hi:i<ι.length:=x.len▸(aaa.mp e).1
 refine bW λY9 y9=> ?_
 obtain ⟨vs,⟨n,h1⟩,h2⟩:=x.obj i ι[i] _ (by simp) e
 refine y9 ?_
 exact ⟨ι[i],n,vs,by simp,h1,h2⟩
theorem eQ.dict {ι:List Addr} {H:Hp} {h:Heap} (x:eQ ι H h) {i:Nat} {es:List (Int×V)} (e:H[i]? = some (.dict es)):∃a kvs,A3 (ι[i]? = some a) (h.DictOf (intKind G.prog G.w) a kvs) (jL ι h es kvs):=by
 have hi:i<ι.length:=x.len▸(aaa.mp e).1
 obtain ⟨kvs,h1,h2⟩:=x.obj i ι[i] _ (by simp) e
 exact ⟨ι[i],kvs,by simp,h1,h2⟩
theorem eQ.flds {ι:List Addr} {H:Hp} {h:Heap} (x:eQ ι H h) {i:Nat} {fs:List (String×V)} (e:H[i]? = some (.flds fs)):∃a es n,A3 (ι[i]? = some a) (h.get? a=some (dictOf es n)) (qJ ι h fs es):=by
 have hi:i<ι.length:=x.len▸(aaa.mp e).1
 obtain ⟨es,n,h1,h2⟩:=x.obj i ι[i] _ (by simp) e
 exact ⟨ι[i],es,n,by simp,h1,h2⟩
theorem iO (h:Heap) (o:Obj):h.StaysIn (h.push o):=λ_ _ e=>aak _ e
theorem gD {ι:List Addr} {H:Hp} {h h':Heap} (x:eQ ι H h) (a:Addr):aM (ι++[a]) h' (.ref H.length) (.ref a):=⟨a,by rw [<- x.len];simp,rfl⟩
theorem aU.newList {β:Type} {A:Around} {ι:List Addr} {q:S} {s:Shared} {T:PT Value} {tk:Nat} {xs:List V} {vs:List Value} (R:cL A env ι q s) (hx:aO ι s.heap xs vs)
  (hT:∀Q E,Q (.ref s.heap.objs.size) { s with heap:=s.heap.push { cls:= .type "list",data:= .seq vs.toArray },toks:=tk }->T Q E s) :
  aU A env ι s (.ok (.ref q.H.length) { q with H:=q.H++[.list xs] }) (aM) T :=
 aU.alloc R (iO _ _) (aaH (aaK _)) ⟨vs,⟨0,aaM _ rfl⟩,hx.mono (aav _ _) (.of_stays (iO _ _))⟩ (gD R.st _) hT
theorem sP (x y:String):Str.ofString x++Str.ofString y=Str.ofString (x++y):=by
 rw [Str.ofString_eq_toList,Str.ofString_eq_toList,Str.ofString_eq_toList,String.toList_append,List.map_append]
 apply Str.ext'
 show _++_=_
 simp
theorem fQ {x y:String} (h:Str.ofString x=Str.ofString y):x=y:=by
 rw [Str.ofString_eq_toList,Str.ofString_eq_toList] at h
 haveI h1:(x.toList.map Char.toNat)=(y.toList.map Char.toNat):=by simpa using congrArg (λz:Str=>z.cps.toList) h
 haveI h2:x.toList=y.toList:=by
  refine (List.map_inj_right ?_).mp h1
  intro a b e
  exact Char.ext (UInt32.toNat.inj e)
 exact String.toList_injective h2
theorem db:wq (λA a b=>mh A (binaryOp .Add a b)) dq:=by
 intro A env ι q s a b ca cb C ha R h1 h2
 cases a with
 | int i =>
  cases b with
  | int j =>
   obtain ⟨t,rfl⟩:=h1;obtain ⟨u,rfl⟩:=h2
   exact aU.ret R ⟨_,rfl⟩ λQ E hQ=>P.add_int hQ
  | _=>trivial
 | str x =>
  cases b with
  | str y =>
   obtain ⟨t,rfl⟩:=h1;obtain ⟨u,rfl⟩:=h2
   unfold dq;dsimp only
   split
   ·rename_i hl
    intro Q E hQ
    refine add_str (λt' tk=> ?_) (by rw [PySem.ofString_length,PySem.ofString_length,sizeLine_eq];exact cu 0xb10c00186a0a10c011 hl)
    rw [sP]
    exact hQ ι _ _ (aY.toks R tk) ⟨t',rfl⟩
   ·trivial
  | _=>trivial
 | ref i =>
  cases b with
  | ref j =>
   obtain ⟨x,hx,rfl⟩:=h1;obtain ⟨y,hy,rfl⟩:=h2
   unfold dq;dsimp only
   cases e1:q.H[i]? with
   | none=>trivial
   | some o =>
    cases o with
    | list xs =>
     cases e2:q.H[j]? with
     | none=>trivial
     | some o =>
      cases o with
      | list ys =>
       dsimp only
       split
       ·rename_i hl
        refine bW λY9 y9=> ?_
        obtain ⟨a1,n1,vs,g1,g2,g3⟩:=R.st.list e1
        obtain ⟨a2,n2,ws,k1,k2,k3⟩:=R.st.list e2
        refine y9 ?_
        obtain rfl:x=a1:=Option.some.inj (hx.symm.trans g1)
        obtain rfl:y=a2:=Option.some.inj (hy.symm.trans k1)
        refine aU.newList (β:=Value) (tk:=s.toks) R (g3.append k3) λQ E hQ=>P.add_list g2 k2 ?_ ?_
        ·simpa using hQ
        ·rw [aaR,aaR,g3.length,k3.length,sizeLine_eq];exact cu 0xb10c00f4240a10c011 hl
       ·trivial
      | _=>trivial
    | _=>trivial
  | _=>trivial
 | _=>trivial
theorem zg {ι:List Addr} {h:Heap} {xs:List V} {vs:List Value} (x:aO ι h xs vs):∀n:Nat,aO ι h (List.replicate n xs).flatten (List.replicate n vs).flatten
 | 0=>yD
 | n+1=>by
  rw [List.replicate_succ,List.replicate_succ,List.flatten_cons,List.flatten_cons]
  exact x.append (zg x n)
theorem Gk {prog:Program} {w:World} {A:Around} {E:Value->Shared->Prop} {s:Shared} {l:Addr} {items:Array Value} {k:Nat} {x:Int} {u:Tok} {Q:Value->Shared->Prop}
  (hl:IsL s.heap l items k) (hlo : -(2 ^ 63:Int)<=x) (hhi:x<2 ^ 63) (hsz:items.size*x.toNat<=2 ^ 24)
  (h:Q (.ref s.heap.objs.size) { s with heap:=s.heap.push { cls:= .type "list",data:= .seq (List.foldl (λx1 x2=>x1++x2) #[] (List.replicate (if items.isEmpty=true then 0 else x.toNat) items)) } }) :
  wpAny (model prog w) A (binaryOp .Mult (.ref l) (.int x u)) Q E s :=
 wpAny_binaryOp_repeat_ref (T := "list") (U := "int") ∅ ⟨_,hl,rfl⟩ (λs'=>typeIs_int s' x u) noFill_list_mul F.fills_int_mul F.slot_int_rmul repeat_list F.slot_int_index.lookup
  (call_meets F.slot_int_rmul (typeIs_int s x u) F.entry_int_rmul (F.args_int_rmul_2 _ _) (int___rmul___int_list x u l items k)
   ⟨hl,rfl,⟨_,hl,rfl⟩,call_meets F.slot_list_mul ⟨_,hl,rfl⟩ F.entry_list_mul (F.args_list_mul_2 _ _)
    (AutoListH.list___mul___list_int_3 l items k x u (by simp [Builtin.List.listFitsIndex];exact ⟨aa8 ∅ hlo,aaX hhi ∅⟩) (Nat.not_lt.mpr (aao hsz ∅)) (by simp [Builtin.List.listTooLong,sizeLine];exact aao hsz ∅))
    ⟨hl,h⟩⟩)
theorem pF:wq (λA a b=>mh A (binaryOp .Mult a b)) ik:=by
 intro A env ι q s a b ca cb C ha R h1 h2
 cases a with
 | int i =>
  cases b with
  | int j =>
   obtain ⟨t,rfl⟩:=h1;obtain ⟨u,rfl⟩:=h2
   unfold ik;dsimp only
   split
   ·exact aU.ret R ⟨_,rfl⟩ λQ E hQ=>P.mul_int hQ (by assumption)
   ·trivial
  | _=>trivial
 | ref i =>
  cases b with
  | int n =>
   obtain ⟨x,hx,rfl⟩:=h1;obtain ⟨u,rfl⟩:=h2
   unfold ik;dsimp only
   cases e1:q.H[i]? with
   | none=>trivial
   | some o =>
    cases o with
    | list xs =>
     dsimp only
     split
     ·rename_i hl
      refine bW λY9 y9=> ?_
      obtain ⟨a1,n1,vs,g1,g2,g3⟩:=R.st.list e1
      refine y9 ?_
      obtain rfl:x=a1:=Option.some.inj (hx.symm.trans g1)
      haveI hv:vs.length=1:=g3.length.trans hl.1
      refine aU.newList (β:=Value) (tk:=s.toks) R (zg g3 n.toNat) λQ E hQ=>Gk g2 (J5 (hl.2.1)) (IM (bY 0xf42400a090f4240a0811 hl.2.2)) (by rw [aaR,hv,Nat.one_mul];exact aao (Int.toNat_le.mpr hl.2.2) (by decide:1000000<=2 ^ 24)) ?_
      haveI:(List.foldl (λx1 x2=>x1++x2) #[] (List.replicate (if vs.toArray.isEmpty=true then 0 else n.toNat) vs.toArray))=(List.replicate n.toNat vs).flatten.toArray:=listMul_foldl_if ..
      rw [this]
      exact hQ
     ·trivial
    | _=>trivial
  | _=>trivial
 | _=>trivial
end
noncomputable def dt {α β:Type} (f:α->Option β):List α->Option (List β)
 | []=>some []
 | x::xs=>(f x).bind λd=>(dt f xs).map (d :: ·)
noncomputable def toD (H:Hp):Nat->V->Option PyData
 | 0,_=>none
 | n+1,v=>match v with
  | .none=>some .none
  | .bool b=>some (.bool b)
  | .int i=>some (.int i)
  | .str x=>some (.str (Str.ofString x))
  | .tup xs=>(dt (toD H n) xs).map .tuple
  | .ref i=>match H[i]? with
   | some (.list xs)=>(dt (toD H n) xs).map .list
   | _=>none
  | _=>none
section
variable {hq:Bool} {k:Nat} {env:Env} {A:Around} {ι:List Addr} {q:S} {s:Shared} {H:Hp} {h:Heap}
theorem gB {n:Nat} (ih:∀ {v:V} {cv:Value} {d:PyData},aM ι h v cv->toD H n v=some d-> ∃as,Reads h cv d as) :
  ∀ {xs:List V} {vs:List Value} {ds:List PyData},aO ι h xs vs->dt (toD H n) xs=some ds-> ∃as,ReadsAll h vs ds as
 | [],_,_,x,e=>by rw [show _=[] from x];cases e;exact ⟨_,.nil⟩
 | v::xs,_,_,z3,e=>by
  refine bW λY9 y9=> ?_
  obtain ⟨cv,vs',q,a,b⟩:=z3
  subst q
  obtain ⟨d,h1,h2⟩:=Option.bind_eq_some_iff.mp e
  obtain ⟨ds,h3,rfl⟩:=Option.map_eq_some_iff.mp h2
  obtain ⟨as,r1⟩:=ih a h1
  obtain ⟨bs,r2⟩:=gB ih b h3
  refine y9 ?_
  exact ⟨_,.cons r1 r2⟩
theorem fR (x:eQ ι H h):∀ {n:Nat} {v:V} {cv:Value} {d:PyData},aM ι h v cv->toD H n v=some d-> ∃as,Reads h cv d as
 | 0,_,_,_,_,e=>by cases e
 | n+1,v,cv,d,r,e=>by
  have ih:= @fR x n
  cases v with
  | none=>cases e;rw [show cv= .none from r];exact ⟨_,.none⟩
  | bool b=>cases e;rw [show cv= .bool b from r];exact ⟨_,.bool b⟩
  | int i=>cases e;obtain ⟨t,rfl⟩:=r;exact ⟨_,.int i t⟩
  | str y=>cases e;obtain ⟨t,rfl⟩:=r;exact ⟨_,.str _ t⟩
  | tup xs =>
   change (dt (toD H n) xs).map PyData.tuple=some d at e
   refine bW λY9 y9=> ?_
   obtain ⟨ds,h1,rfl⟩:=Option.map_eq_some_iff.mp e
   obtain ⟨a,vs,rfl,⟨o,ho,hc,n',hd⟩,hv⟩:=r
   obtain ⟨as,ra⟩:=gB ih hv h1
   refine y9 ?_
   exact ⟨_,.tuple ho hc hd (by simpa using ra)⟩
  | ref i =>
   change (match H[i]? with | some (.list xs)=>(dt (toD H n) xs).map PyData.list | _=>none)=some d at e
   cases hx:H[i]? with
   | none=>rw [hx] at e;cases e
   | some o =>
   rw [hx] at e
   cases o with
   | list xs =>
    refine bW λY9 y9=> ?_
    obtain ⟨ds,h1,rfl⟩:=Option.map_eq_some_iff.mp e
    obtain ⟨a,n',vs,g1,g2,g3⟩:=x.list hx
    obtain ⟨a',e1,rfl⟩:=r
    refine y9 ?_
    obtain rfl:a'=a:=Option.some.inj (e1.symm.trans g1)
    obtain ⟨as,ra⟩:=gB ih g3 h1
    exact ⟨_,.list g2 rfl rfl (by simpa using ra)⟩
   | _=>cases e
  | inst c i=>cases e
  | exc c=>cases e
  | scr=>cases e
noncomputable def FR (H:Hp) (a b:V):Option Bool:=(toD H 8 a).bind λd=>(toD H 8 b).bind λe=>if SeqAt.shaped d&&SeqAt.shaped e then some (PyData.eqv d e) else none
noncomputable def IN (H:Hp) (a:V) (xs:List V):Option Bool:=(toD H 8 a).bind λd=>(dt (toD H 8) xs).bind λds=>if SeqAt.shaped d&&SeqAt.shaped (.list ds) then some (ds.any λy=>PyData.eqv y d) else none
noncomputable def nZ (a b:V):Cm Bool:=λq=>match FR q.H a b with | some x=> .ok x q | none=> .stuck
noncomputable def tY (a b:V):Cm Bool:=λq=>match b with
 | .ref i=>(match q.H[i]?,a with
  | some (.list xs),_=>(match IN q.H a xs with | some x=> .ok x q | none=> .stuck)
  | some (.dict es),.int k=> .ok ((es.lookup k).isSome) q
  | _,_=> .stuck)
 | _=> .stuck
noncomputable def isNone:V->Bool
 | .none=>true
 | _=>false
noncomputable def EN (f:Int->Int->Bool) (a b:V):Cm Bool:=match a,b with | .int i,.int j=> .p (f i j) | _,_=> .stk
noncomputable def dA (op:CmpOp) (a b:V):Cm Bool:=match op with
 | .Eq=>nZ a b
 | .NotEq=>(nZ a b).b λx=> .p (!x)
 | .Lt=>EN (λi j=>decide (i<j)) a b
 | .LtE=>EN (λi j=>decide (i<=j)) a b
 | .Gt=>EN (λi j=>decide (i>j)) a b
 | .GtE=>EN (λi j=>decide (i>=j)) a b
 | .Is=>(match b with | .none=> .p (isNone a) | _=> .stk)
 | .IsNot=>(match b with | .none=> .p (!isNone a) | _=> .stk)
 | .In=>tY a b
 | .NotIn=>(tY a b).b λx=> .p (!x)
theorem j9.units_lt (ha:∃hq k,j9 hq k A env):A.units+100<cLine:=by
 obtain ⟨hq,k,ha⟩:=ha
 haveI:=ha.units
 show A.units+100<9900
 exact cu 0x26aca000064a0c1002328a132d0c011 this
theorem xg {v:V} {cv:Value} (r:aM ι h v cv):(cv == .none)=isNone v:=by
 cases v with
 | none=>rw [show cv= .none from r];rfl
 | bool b=>rw [show cv= .bool b from r];rfl
 | int i=>obtain ⟨t,rfl⟩:=r;rfl
 | str y=>obtain ⟨t,rfl⟩:=r;rfl
 | tup xs=>obtain ⟨a,vs,rfl,_⟩:=r;rfl
 | ref i=>obtain ⟨a,_,rfl⟩:=r;rfl
 | inst c i=>obtain ⟨a,x,C,o,_,_,rfl,_⟩:=r;rfl
 | exc c=>obtain ⟨x,C,o,_,rfl,_⟩:=r;rfl
 | scr=>rw [show cv= .ref G.sa from r];rfl
abbrev Hz:List Addr->Heap->Bool->Value->Prop:=λ_ _ x cv=>cv= .bool x
theorem hG:∀ {es:List (Int×V)} {kvs:List (Int×Value)},jL ι h es kvs-> ∀(k:Int),(match es.lookup k with | some v=> ∃cv,valueAt kvs k=some cv/\aM ι h v cv | none=>valueAt kvs k=none)
 | [],_,x,k=>by rw [show _=[] from x];rfl
 | (k',v)::es,_,z2,k=>by
  obtain ⟨cv,kvs',q,a,b⟩:=z2
  subst q
  haveI ih:=hG b k
  rw [List.lookup_cons]
  unfold valueAt
  by_cases e:k=k'
  ·subst e;simp;exact a
  ·haveI:(k==k')=false:=by simpa using e
   rw [this]
   have e':¬(k'=k):=λx=>e x.symm
   simp only [e',if_false]
   first | exact ih | simpa [valueAt,e'] using ih
end
section
variable {hq:Bool} {k:Nat} {env:Env} {A:Around} {ι:List Addr} {q:S} {s:Shared} {H:Hp} {h:Heap}
theorem rX (C:bL G) (R:eQ ι H h) {a:Addr} (ha:a∈ι):(a==sysModules)=false:=by
 refine bW λY9 y9=> ?_
 obtain ⟨mm,⟨o,_,_,ho,_⟩,_⟩:=C.seer.mods
 refine y9 ?_
 refine beq_eq_false_iff_ne.mpr λe=> ?_
 have:=R.fresh a ha
 rw [e,ho] at this;cases this
theorem y7 {a b:V} {x:Bool} (e:FR H a b=some x):∃d f,A5 (toD H 8 a=some d) (toD H 8 b=some f) (SeqAt.shaped d=true) (SeqAt.shaped f=true) (x=PyData.eqv d f):=by
 obtain ⟨d,h1,e⟩:=Option.bind_eq_some_iff.mp e
 obtain ⟨f,h2,e⟩:=Option.bind_eq_some_iff.mp e
 split at e
 ·rename_i h;cases e;obtain ⟨h3,h4⟩:=aaN.mp h;exact ⟨d,f,h1,h2,h3,h4,rfl⟩
 ·cases e
theorem Er {a:V} {xs:List V} {x:Bool} (e:IN H a xs=some x):∃d ds,A5 (toD H 8 a=some d) (dt (toD H 8) xs=some ds) (SeqAt.shaped d=true) (SeqAt.shaped (.list ds)=true) (x=ds.any λy=>PyData.eqv y d):=by
 obtain ⟨d,h1,e⟩:=Option.bind_eq_some_iff.mp e
 obtain ⟨f,h2,e⟩:=Option.bind_eq_some_iff.mp e
 split at e
 ·rename_i h;cases e;obtain ⟨h3,h4⟩:=aaN.mp h;exact ⟨d,f,h1,h2,h3,h4,rfl⟩
 ·cases e
theorem wG {P:Prop} (h:∀X:Prop,(P->X)->X):P:=h P id
theorem By {f:Int->Int->Bool} {op:CmpOp} {a b:V} {ca cb:Value} (R:cL A env ι q s) (h1:aM ι s.heap a ca) (h2:aM ι s.heap b cb) (hT:∀ {i j:Int} {t u:Tok} {Q E},Q (.bool (f i j)) s->wpAny G.M A (compareOp op (.int i t) (.int j u)) Q E s) :
  aU A env ι s (EN f a b q) Hz (mh A (compareOp op ca cb)):=by
 cases a with
 | int i =>
  cases b with
  | int j =>
   obtain ⟨t,rfl⟩:=h1;obtain ⟨u,rfl⟩:=h2
   exact aU.ret0 R rfl λQ E hQ=>hT hQ
  | _=>trivial
 | _=>trivial
theorem Es {a b:V} {ca cb:Value} (C:bL G) (hu:A.units+100<cLine) (st:eQ ι q.H s.heap) (h1:aM ι s.heap a ca) (h2:aM ι s.heap b cb):tY a b q= .stuck\/ ∃x,tY a b q= .ok x q /\
  (∀ {Q E},(∀tk,Q (.bool x) { s with toks:=tk })->wpAny G.M A (compareOp .In ca cb) Q E s)/\ ∀ {Q E},(∀tk,Q (.bool (!x)) { s with toks:=tk })->wpAny G.M A (compareOp .NotIn ca cb) Q E s:=by
 refine wG λG' kG=> ?_
 cases b with
 | ref i =>
  obtain ⟨ad,hi,rfl⟩:=h2
  cases hx:q.H[i]? with
  | none=>exact kG (.inl (by unfold tY;dsimp only;rw [hx]))
  | some o =>
  cases o with
  | list xs =>
   cases hy:IN q.H a xs with
   | none=>exact kG (.inl (by unfold tY;dsimp only;rw [hx];dsimp only;rw [hy]))
   | some y =>
    obtain ⟨d,ds,e1,e2,e3,e4,ey⟩:=Er hy
    obtain ⟨as,r1⟩:=fR st h1 e1
    obtain ⟨a1,n1,vs,g1,g2,g3⟩:=st.list hx
    obtain rfl:ad=a1:=Option.some.inj (hi.symm.trans g1)
    obtain ⟨bs,r2⟩:=gB (fR st) g3 e2
    have r3:Reads s.heap (.ref ad) (.list ds) _:= .list g2 rfl rfl (by simpa using r2)
    refine kG (.inr ⟨y,by unfold tY;dsimp only;rw [hx];dsimp only;rw [hy],λhQ=> ?_,λhQ=> ?_⟩)
    ·exact SeqAt.in_list_reads r3 r1 (SeqAt.canLay_of_shaped e4) (SeqAt.canLay_of_shaped e3) (room_in_shaped e3 (cu 0x1000041a0c11000064a0c111 hu)) (ey▸hQ s.toks)
    ·exact SeqAt.notIn_list_reads r3 r1 (SeqAt.canLay_of_shaped e4) (SeqAt.canLay_of_shaped e3) (room_in_shaped e3 (cu 0x1000041a0c11000064a0c111 hu)) (ey▸hQ s.toks)
  | dict es =>
   cases a with
   | int k0 =>
    obtain ⟨t,rfl⟩:=h1
    obtain ⟨a1,kvs,g1,g2,g3⟩:=st.dict hx
    obtain rfl:ad=a1:=Option.some.inj (hi.symm.trans g1)
    have hm:=rX C st (aaE g1)
    have hv:=hG g3 k0
    have hs:(valueAt kvs k0).isSome=(es.lookup k0).isSome:=by
     cases hl:es.lookup k0 with
     | none=>rw [hl] at hv;rw [hv];rfl
     | some v=>rw [hl] at hv;obtain ⟨cv,hv,_⟩:=hv;rw [hv];rfl
    refine kG (.inr ⟨(es.lookup k0).isSome,by unfold tY;dsimp only;rw [hx],λhQ=> ?_,λhQ=> ?_⟩)
    ·exact wpAny_in_of (intKind_is G.prog G.w k0 t) hm g2.mapOf (by rw [hs];exact hQ _)
    ·exact wpAny_notIn_of (intKind_is G.prog G.w k0 t) hm g2.mapOf (by rw [hs];exact hQ _)
   | _=>exact kG (.inl (by unfold tY;dsimp only;rw [hx]))
  | flds _=>exact kG (.inl (by unfold tY;dsimp only;rw [hx]))
 | _=>exact kG (.inl rfl)
theorem wp (op:CmpOp) {a b:V} {ca cb:Value} (C:bL G) (ha:∃hq k,j9 hq k A env) (R:cL A env ι q s) (h1:aM ι s.heap a ca) (h2:aM ι s.heap b cb) :
  aU A env ι s (dA op a b q) Hz (mh A (compareOp op ca cb)):=by
 have hu:=j9.units_lt ha
 have hEq:∀ {x:Bool},FR q.H a b=some x-> ∀ {Q E},Q (.bool x) s->wpAny G.M A (compareOp .Eq ca cb) Q E s:=λ{x} e {Q E} hQ=>by
  refine bW λY9 y9=> ?_
  obtain ⟨d,f,e1,e2,e3,e4,rfl⟩:=y7 e
  obtain ⟨as,r1⟩:=fR R.st h1 e1
  obtain ⟨bs,r2⟩:=fR R.st h2 e2
  refine y9 ?_
  exact eq_dataH r1 r2 e3 e4 (cu 0x1000040a0c11000064a0c111 hu) hQ
 have hNe:∀ {x:Bool},FR q.H a b=some x-> ∀ {Q E},Q (.bool (!x)) s->wpAny G.M A (compareOp .NotEq ca cb) Q E s:=λ{x} e {Q E} hQ=>by
  refine bW λY9 y9=> ?_
  obtain ⟨d,f,e1,e2,e3,e4,rfl⟩:=y7 e
  obtain ⟨as,r1⟩:=fR R.st h1 e1
  obtain ⟨bs,r2⟩:=fR R.st h2 e2
  refine y9 ?_
  exact ne_dataH r1 r2 e3 e4 (cu 0x1000040a0c11000064a0c111 hu) hQ
 cases op with
 | Eq =>
  show aU A env ι s (nZ a b q) _ _
  unfold nZ
  cases e:FR q.H a b with
  | none=>trivial
  | some x=>exact aU.ret0 R rfl λQ E hQ=>hEq e hQ
 | NotEq =>
  show aU A env ι s (((nZ a b).b λx=> .p (!x)) q) _ _
  unfold nZ Cm.b
  cases e:FR q.H a b with
  | none=>dsimp only;rw [e];trivial
  | some x=>dsimp only;rw [e];exact aU.ret0 (REL:=Hz) R rfl λQ E hQ=>hNe e hQ
 | Lt=>exact By R h1 h2 λhQ=>P.lt_int hQ
 | LtE=>exact By R h1 h2 λhQ=>P.le_int hQ
 | Gt=>exact By R h1 h2 λhQ=>P.gt_int hQ
 | GtE=>exact By R h1 h2 λhQ=>P.ge_int hQ
 | Is =>
  cases b with
  | none =>
   rw [show cb= .none from h2]
   exact aU.ret0 R rfl λQ E hQ=>is_none (by rw [xg h1];exact hQ)
  | _=>trivial
 | IsNot =>
  cases b with
  | none =>
   rw [show cb= .none from h2]
   exact aU.ret0 R rfl λQ E hQ=>isNot_none (by rw [xg h1];exact hQ)
  | _=>trivial
 | In =>
  show aU A env ι s (tY a b q) _ _
  rcases Es C hu R.st h1 h2 with e | ⟨x,e,h3,_⟩
  ·rw [e];trivial
  ·rw [e];exact λQ E hQ=>h3 λtk=>hQ ι _ _ (aY.toks R tk) rfl
 | NotIn =>
  show aU A env ι s (((tY a b).b λx=> .p (!x)) q) _ _
  rcases Es C hu R.st h1 h2 with e | ⟨x,e,_,h3⟩
  ·rw [cK e];trivial
  ·rw [fZ e];exact λQ E hQ=>h3 λtk=>hQ ι _ _ (aY.toks R tk) rfl
noncomputable def bE:V->Cm Bool
 | .bool b=> .p b
 | _=> .stk
theorem xo {v:V} {cv:Value} (R:cL A env ι q s) (h1:aM ι s.heap v cv):aU A env ι s (bE v q) (λ_ _ x y=>x=y) (mh A (truthy cv)):=by
 cases v with
 | bool b=>rw [show cv= .bool _ from h1];exact aU.ret0 R rfl λQ E hQ=>wpAny_truthy_bool hQ
 | _=>trivial
theorem yN {x:Bool} {cv:Value} (R:cL A env ι q s) (h1:cv= .bool x):aU A env ι s (.ok x q) (λ_ _ x y=>x=y) (mh A (truthy cv)):=by
 subst h1;exact aU.ret0 R rfl λQ E hQ=>wpAny_truthy_bool hQ
theorem Bu (C:bL G) {l r:Expr} {op:CmpOp} {pos:Pos} {m1 m2:Cm V} (h1:Ev hq k env l m1) (h2:Ev hq k env r m2) (hm:behindInMarks op r=false) :
  Ev hq k env (.Compare l [op] [r] pos) (m1.b λa=>m2.b λb=>(dA op a b).b λx=> .p (.bool x)) :=
 λA ι q s ha R=>(aU.b (h1 A ι q s ha R) λa q' ι' b s' _ P hv=>aU.b (T':=λb' Q E s₂=>wpAny G.M A (compareOp op b b') Q E s₂) (h2 A ι' q' s' ha P.rel) λa2 q2 ι2 b2 s2 _ P2 hv2 =>
  (aU.b (T':=λc Q E s=>Q c s) (wp op C ⟨_,_,ha⟩ P2.rel (P2.vrel P.rel hv) hv2) λx q3 ι3 c s3 _ P3 hc=>aU.ret0 P3.rel (hc▸xf x) λQ E hQ=>hQ)).imp λQ E x=>wpAny_Compare1 x hm
theorem br (C:bL G) {l r:Expr} {op:CmpOp} {pos:Pos} {m1 m2:Cm V} (h1:Ev hq k env l m1) (h2:Ev hq k env r m2) (hm:behindInMarks op r=false:=by kernel_rfl) :
  Tr hq k env (.Compare l [op] [r] pos) (m1.b λa=>m2.b λb=>(dA op a b).b λx=> .p x) :=
 λA ι q s ha R=>(aU.b (h1 A ι q s ha R) λa q' ι' b s' _ P hv=>aU.b (T':=λb' Q E s₂=>wpAny G.M A (compareOp op b b') (λc s₃=>wpAny G.M A (truthy c) Q E s₃) E s₂) (h2 A ι' q' s' ha P.rel) λa2 q2 ι2 b2 s2 _ P2 hv2 =>
  (aU.b (T':=λc Q E s=>wpAny G.M A (truthy c) Q E s) (wp op C ⟨_,_,ha⟩ P2.rel (P2.vrel P.rel hv) hv2) λx q3 ι3 c s3 _ P3 hc=>yN P3.rel hc)).imp λQ E x=>wpAny_isTrue_Compare1 x hm
theorem AH (C:bL G) {l r1 r2:Expr} {o1 o2:CmpOp} {pos:Pos} {m0 m1 m2:Cm V} (h0:Ev hq k env l m0) (h1:Ev hq k env r1 m1) (h2:Ev hq k env r2 m2) (hm:lastMarks [o1,o2] [r1,r2]=false) :
  Tr hq k env (.Compare l [o1,o2] [r1,r2] pos) (m0.b λa=>m1.b λb=>(dA o1 a b).b λx=>if x then m2.b λc=>(dA o2 b c).b λy=> .p y else .p false):=by
 intro A ι q s ha R
 refine (aU.b (T':=λa Q E s₁=>wpAny G.M A (eval r1 env) (λb s₁=>wpAny G.M A (compareOp o1 a b) (λc s₂=>wpAny G.M A (truthy c)
   (λt s₃=>if t then wpAny G.M A (testChain pos b [o2] [eval r2 env]) Q E s₃ else Q false s₃) E s₂) E s₁) E s₁) (h0 A ι q s ha R) λa q' ι' b s' _ P hv=> ?_).imp λQ E x=>isTrue_chain (wpAny_mono x (λa s₁ y=>test_link y) λ_ _ y=>y) hm
 refine aU.b (T':=λb' Q E s₁=>wpAny G.M A (compareOp o1 b b') (λc s₂=>wpAny G.M A (truthy c)
   (λt s₃=>if t then wpAny G.M A (testChain pos b' [o2] [eval r2 env]) Q E s₃ else Q false s₃) E s₂) E s₁) (h1 A ι' q' s' ha P.rel) λa2 q2 ι2 b2 s2 _ P2 hv2=> ?_
 refine aU.b (T':=λc Q E s₂=>wpAny G.M A (truthy c) (λt s₃=>if t then wpAny G.M A (testChain pos b2 [o2] [eval r2 env]) Q E s₃ else Q false s₃) E s₂) (wp o1 C ⟨_,_,ha⟩ P2.rel (P2.vrel P.rel hv) hv2) λx q3 ι3 c s3 _ P3 hc=> ?_
 subst hc
 cases x with
 | false=>exact aU.ret0 P3.rel rfl λQ E hQ=>wpAny_truthy_bool hQ
 | true =>
  refine (aU.b (T':=λc' Q E s₁=>wpAny G.M A (compareOp o2 b2 c') (λd s₂=>wpAny G.M A (truthy d) Q E s₂) E s₁) (h2 A ι3 q3 s3 ha P3.rel) λa4 q4 ι4 b4 s4 _ P4 hv4=> ?_).imp λQ E y=>wpAny_truthy_bool (test_last y)
  exact aU.b (T':=λc Q E s=>wpAny G.M A (truthy c) Q E s) (wp o2 C ⟨_,_,ha⟩ P4.rel (P4.vrel P3.rel (P3.vrel P2.rel hv2)) hv4) λx q5 ι5 c s5 _ P5 hc=>yN P5.rel hc
theorem DJ (C:bL G) {l r1 r2:Expr} {o1 o2:CmpOp} {pos:Pos} {m0 m1 m2:Cm V} (h0:Ev hq k env l m0) (h1:Ev hq k env r1 m1) (h2:Ev hq k env r2 m2) (hm:lastMarks [o1,o2] [r1,r2]=false) :
  Ev hq k env (.Compare l [o1,o2] [r1,r2] pos) (m0.b λa=>m1.b λb=>(dA o1 a b).b λx=>if x then m2.b λc=>(dA o2 b c).b λy=> .p (.bool y) else .p (.bool false)):=by
 intro A ι q s ha R
 refine (aU.b (T':=λa Q E s₁=>wpAny G.M A (eval r1 env) (λb s₁=>wpAny G.M A (compareOp o1 a b) (λc s₂=>wpAny G.M A (truthy c)
   (λt s₃=>if t then wpAny G.M A (compareChain pos b [o2] [eval r2 env]) Q E s₃ else Q c s₃) E s₂) E s₁) E s₁) (h0 A ι q s ha R) λa q' ι' b s' _ P hv=> ?_).imp λQ E x=>Compare_chain (wpAny_mono x (λa s₁ y=>chain_link y) λ_ _ y=>y) hm
 refine aU.b (T':=λb' Q E s₁=>wpAny G.M A (compareOp o1 b b') (λc s₂=>wpAny G.M A (truthy c)
   (λt s₃=>if t then wpAny G.M A (compareChain pos b' [o2] [eval r2 env]) Q E s₃ else Q c s₃) E s₂) E s₁) (h1 A ι' q' s' ha P.rel) λa2 q2 ι2 b2 s2 _ P2 hv2=> ?_
 refine aU.b (T':=λc Q E s₂=>wpAny G.M A (truthy c) (λt s₃=>if t then wpAny G.M A (compareChain pos b2 [o2] [eval r2 env]) Q E s₃ else Q c s₃) E s₂) (wp o1 C ⟨_,_,ha⟩ P2.rel (P2.vrel P.rel hv) hv2) λx q3 ι3 c s3 _ P3 hc=> ?_
 subst hc
 cases x with
 | false=>exact aU.ret0 P3.rel (xf false) λQ E hQ=>wpAny_truthy_bool hQ
 | true =>
  refine (aU.b (T':=λc' Q E s₁=>wpAny G.M A (compareOp o2 b2 c') Q E s₁) (h2 A ι3 q3 s3 ha P3.rel) λa4 q4 ι4 b4 s4 _ P4 hv4=> ?_).imp λQ E y=>wpAny_truthy_bool (chain_last y)
  exact aU.b (T':=λc Q E s=>Q c s) (wp o2 C ⟨_,_,ha⟩ P4.rel (P4.vrel P3.rel (P3.vrel P2.rel hv2)) hv4) λx q5 ι5 c s5 _ P5 hc=>aU.ret0 P5.rel (hc▸xf x) λQ E hQ=>hQ
theorem dP {x:Expr} {pos:Pos} {m:Cm Bool} (h1:Tr hq k env x m):Tr hq k env (.UnaryOp .Not x pos) (m.b λb=> .p (!b)) :=
 λA ι q s ha R=>(aU.b (T':=λb Q E s₁=>Q (!b) s₁) (h1 A ι q s ha R) λa q' ι' b s' _ P hv=>aU.ret0 P.rel (hv▸rfl) λQ E hQ=>hQ).imp λQ E x=>wpAny_isTrue_Not x
theorem GX {x:Expr} {pos:Pos} {m:Cm V} (h1:Ev hq k env x m):Ev hq k env (.UnaryOp .Not x pos) (m.b λv=>(bE v).b λb=> .p (.bool (!b))) :=
 λA ι q s ha R=>(aU.b (T':=λv Q E s₁=>wpAny G.M A (truthy v) (λb s₁=>Q (.bool (!b)) s₁) E s₁) (h1 A ι q s ha R) λa q' ι' b s' _ P hv =>
  aU.b (T':=λb Q E s₁=>Q (Value.bool (!b)) s₁) (xo P.rel hv) λa2 q2 ι2 b2 s2 _ P2 hv2=>by subst hv2;exact aU.ret0 P2.rel (xf _) λQ E hQ=>hQ).imp λQ E x=>wpAny_UnaryOp (wpAny_mono x (λv s₁ y=>not_value y) λ_ _ y=>y)
noncomputable def Ji:V->Cm V
 | .int i=> .p (.int (-i))
 | _=> .stk
theorem IS {x:Expr} {pos:Pos} {m:Cm V} (h1:Ev hq k env x m):Ev hq k env (.UnaryOp .USub x pos) (m.b λv=>Ji v) :=
 λA ι q s ha R=>(aU.b (T':=λv Q E s₁=>wpAny G.M A (unaryOp .USub v) Q E s₁) (h1 A ι q s ha R) λa q' ι' b s' _ P hv=>by
  cases a with
  | int i=>obtain ⟨t,rfl⟩:=hv;exact aU.ret P.rel (Aj _ _) λQ E hQ=>PySem.P.neg_int hQ
  | _=>trivial).imp λQ E x=>wpAny_UnaryOp x
theorem eG {e:Expr} {m:Cm V} (h1:Ev hq k env e m) (he:isTrue e env (eval e env)=(do let v <- eval e env;standAt e.pos;holding [v] (truthy v)):=by rfl):Tr hq k env e (m.b λv=>bE v) :=
 λA ι q s ha R=>(aU.b (T':=λv Q E s₁=>wpAny G.M A (truthy v) Q E s₁) (h1 A ι q s ha R) λa q' ι' b s' _ P hv=>xo P.rel hv).imp λQ E x=>wpAny_isTrue_value x he
abbrev Hy (hq:Bool) (k:Nat) (env:Env) (op:BoolOp) (es:List Expr) (m:Cm Bool):Prop:=Sem.Is hq k env (λA=>mh A (allTrue op es env)) m (λ_ _ a b=>a=b)
theorem xp:Hy hq k env .And [] (.p true):=λA ι q s ha R=>aU.ret0 R rfl λQ E hQ=>wpAny_allTrue_And_nil hQ
theorem fz:Hy hq k env .Or [] (.p false):=λA ι q s ha R=>aU.ret0 R rfl λQ E hQ=>wpAny_allTrue_Or_nil hQ
theorem qK {x:Expr} {es:List Expr} {m m':Cm Bool} (h1:Tr hq k env x m) (h2:Hy hq k env .And es m'):Hy hq k env .And (x::es) (m.b λb=>if b then m' else .p false) :=
 λA ι q s ha R=>(aU.b (T':=λb Q E s₁=>if b then wpAny G.M A (allTrue .And es env) Q E s₁ else Q false s₁) (h1 A ι q s ha R) λa q' ι' b s' _ P hv=>by
  subst hv
  cases a with
  | true=>exact (h2 A ι' q' s' ha P.rel).imp λQ E x=>x
  | false=>exact aU.ret0 P.rel rfl λQ E hQ=>hQ).imp λQ E x=>wpAny_allTrue_And_cons x
theorem cN {x:Expr} {es:List Expr} {m m':Cm Bool} (h1:Tr hq k env x m) (h2:Hy hq k env .Or es m'):Hy hq k env .Or (x::es) (m.b λb=>if b then .p true else m') :=
 λA ι q s ha R=>(aU.b (T':=λb Q E s₁=>if b then Q true s₁ else wpAny G.M A (allTrue .Or es env) Q E s₁) (h1 A ι q s ha R) λa q' ι' b s' _ P hv=>by
  subst hv
  cases a with
  | true=>exact aU.ret0 P.rel rfl λQ E hQ=>hQ
  | false=>exact (h2 A ι' q' s' ha P.rel).imp λQ E x=>x).imp λQ E x=>wpAny_allTrue_Or_cons x
theorem dN {op:BoolOp} {es:List Expr} {pos:Pos} {m:Cm Bool} (h1:Hy hq k env op es m):Tr hq k env (.BoolOp op es pos) m :=
 λA ι q s ha R=>(h1 A ι q s ha R).imp λQ E x=>wpAny_isTrue_BoolOp x
abbrev Jt (hq:Bool) (k:Nat) (env:Env) (op:BoolOp) (es:List Expr) (m:Cm V):Prop:= ∀pos,Sem.Is hq k env (λA=>mh A (boolOp pos op (evalEach es env))) m (aM)
theorem qI {op:BoolOp} {e:Expr} {m:Cm V} (h1:Ev hq k env e m):Jt hq k env op [e] m:=λpos A ι q s ha R=>(h1 A ι q s ha R).imp λQ E x=>x
theorem o4 {x y:Expr} {es:List Expr} {m m':Cm V} (h1:Ev hq k env x m) (h2:Jt hq k env .And (y::es) m') :
  Jt hq k env .And (x::y::es) (m.b λv=>(bE v).b λb=>if b then m' else .p v):=λpos A ι q s ha R=>by
 refine (aU.b (T':=λv Q E s₁=>wpAny G.M A (truthy v) (λt s₂=>if t then wpAny G.M A (boolOp pos .And (evalEach (y::es) env)) Q E s₂ else Q v s₂) E s₁) (h1 A ι q s ha R) λa q' ι' b s' _ P hv =>
  aU.b (T':=λt Q E s₂=>if t then wpAny G.M A (boolOp pos .And (evalEach (y::es) env)) Q E s₂ else Q b s₂) (xo P.rel hv) λa2 q2 ι2 b2 s2 _ P2 hv2=> ?_).imp λQ E x=> ?_
 ·subst hv2
  cases a2 with
  | true=>exact (h2 pos A ι2 q2 s2 ha P2.rel).imp λQ E x=>x
  | false=>exact aU.ret0 P2.rel (P2.vrel P.rel hv) λQ E hQ=>hQ
 ·show wpAny G.M A (do
   let v <- eval _ env
   standAt pos
   let t <- holding [v] (truthy v)
   match BoolOp.And,t with
   | .And,false | .Or,true=>pure v
   | _,_=>boolOp pos .And (evalEach (y::es) env)) Q E s
  refine wpAny_bind (wpAny_mono x (λv s₁ h₁=>wpAny_bind (wpAny_standAt (wpAny_bind (wpAny_holding (wpAny_mono h₁ (λt s₂ h₂=> ?_) λ_ _ x=>x))))) λ_ _ x=>x)
  cases t with
  | false=>exact wpAny_pure h₂
  | true=>exact h₂
theorem jM {op:BoolOp} {es:List Expr} {pos:Pos} {m:Cm V} (h1:Jt hq k env op es m):Ev hq k env (.BoolOp op es pos) m :=
 λA ι q s ha R=>(h1 pos A ι q s ha R).imp λQ E x=>x
end
section
variable {hq:Bool} {k:Nat} {env:Env} {A:Around} {ι:List Addr} {q:S} {s:Shared} {H:Hp} {h:Heap}
theorem bC {α β:Type} [BEq α] [LawfulBEq α] {x:α} {y:β}:∀ {l:List (α×β)},l.lookup x=some y->(x,y)∈l
  | [],e=>by simp at e
  | (a,b)::r,e=>by
   rw [List.lookup_cons] at e
   split at e
   ·rename_i q;cases e;rw [eq_of_beq q];exact .head _
   ·exact .tail _ (bC e)
theorem aY.ownChange (R:cL A env ι q s) {h':Heap} {tk:Nat} {a:Addr} {l':bp} (ha:a∈own env) (hs:Heap.SameBut a s.heap h')
  (ho:∀o,s.heap.get? a=some o-> ∀es n,o.data= .dict es n-> ∃o',h'.get? a=some o'/\ ∃es n,o'.data= .dict es n)
  (fr':oi s.heap h'->jN env l' ι h' h'):aY A env ι s ι ⟨l',q.H⟩ { s with heap:=h',toks:=tk }:=by
 have ext:=hs.extBut
 have ne:∀b o,s.heap.get? b=some o->b∉own env++ι->h'.get? b=some o:=λb o e hb=>ext b o (λq=>hb (aaD _ (q▸ha))) e
 have im:=R.imm' (h':=h') λb o e hW=>⟨o.slots,ne b o e hW⟩
 haveI kp:Kp (own env++ι) (kJ A) s.heap h':=⟨λb o e=>by
   by_cases hb:b=a
   ·subst hb;obtain ⟨o',e',_⟩:=(fr' im).mut (λ_ _ e=>e) ha;exact ⟨o',e'⟩
   ·exact ⟨o,ext b o hb e⟩,λb o e hW=>⟨o.slots,ne b o e hW⟩,λb o e hW _=>ne b o e hW⟩
 have pr:ι<+:ι:=aam _
 have hai:a∉ι:=R.fr.dis a ha
 refine ⟨pr,⟨⟨?_,R.st.len,R.st.nodup,R.st.fresh,?_⟩,fr' im,?_,R.gens,R.os,R.hn.imm im⟩,kp,λ_ h=> .inl h⟩
 ·intro b o e
  exact ext b o (λq=>by rw [q,R.fr.fresh a ha] at e;cases e) (R.st.keep b o e)
 ·intro j x y e1 e2
  exact (R.st.obj j x y e1 e2).at pr im λo e=>ext x o (λq=>hai (q▸aaE e1)) e
 ·intro env' he
  refine bW λY9 y9=> ?_
  obtain ⟨b1,L,o',b2,b3,⟨es,n,b4⟩,b5,b6⟩:=R.fs env' he
  refine y9 ?_
  by_cases hL:L=a
  ·subst hL
   refine bW λY9 y9=> ?_
   obtain ⟨o2,c1,es',n',c2⟩:=ho o' b3 es n b4
   refine y9 ?_
   exact ⟨b1,L,o2,b2,c1,⟨es',n',c2⟩,b5,b6⟩
  ·exact ⟨b1,L,o',b2,ext L o' hL b3,⟨es,n,b4⟩,b5,b6⟩
theorem ny {l:bp} {x y:String} {v w:V} (e:upd l x v y=some w):(y=x/\w=v)\/(y≠x/\l y=some w):=by
 unfold upd at e
 split at e
 ·rename_i h;exact .inl ⟨h,(Option.some.inj e).symm⟩
 ·rename_i h;exact .inr ⟨h,e⟩
def yI (env:Env) (x:String):Prop:=env.kindOf (Str.ofString x)=some .local\/(env.kindOf (Str.ofString x)=some .cell/\(env.cells.lookup (Str.ofString x)).isSome=true)
theorem pG {x:String} {v:V} {cv:Value} (hx:yI env x) (R:cL A env ι q s) (hv:aM ι s.heap v cv) :
  aU A env ι s (.ok () ⟨upd q.l x v,q.H⟩) (λ_ _ _ _=>True) (mh A (storeName env (Str.ofString x) cv)):=by
 intro Q E hQ
 haveI hp:(env.scope.kind == .class||(env.scope.kind == .module&&env.locals != env.globals))=false:=by rw [R.fr.kind];rfl
 rcases hx with hx | ⟨hx,hc⟩
 ·obtain ⟨m,hn,hm⟩:=R.fr.loc
  refine wpAny_storeName_local hx hn (λh' hn' hs=> ?_) hp
  refine hQ ι () _ (aY.ownChange R (.head _) hs (λo _ es n _=> ?_) λim=> ?_) trivial
  ·obtain ⟨o',es',ep',h1,h2,_⟩:=hn';exact ⟨o',h1,es',ep',h2⟩
  ·have pr:ι<+:ι:=aam _
   refine ⟨R.fr.kind,R.fr.glob,R.fr.blt,⟨_,hn',λy w e1 e2=> ?_⟩,λy w e1 e2=> ?_,λp hp=> ?_,R.fr.ndup,R.fr.dis,R.fr.fresh⟩
   ·rcases ny e1 with ⟨rfl,rfl⟩ | ⟨hne,e1⟩
    ·exact ⟨cv,by simp,hv.mono pr im⟩
    ·obtain ⟨cw,a,b⟩:=hm y w e1 e2
     exact ⟨cw,by rw [if_neg (λq=>hne (fQ q))];exact a,b.mono pr im⟩
   ·rcases ny e1 with ⟨rfl,rfl⟩ | ⟨hne,e1⟩
    ·rw [hx] at e2;rcases e2 with e2 | e2<;>cases e2
    ·obtain ⟨c,o,cw,a,b,d,f⟩:=R.fr.cel y w e1 e2
     refine ⟨c,o,cw,a,hs.extBut c o (λq=> ?_) b,d,f.mono pr im⟩
     obtain ⟨oL,es,ep,hL,hd,_⟩:=hn
     rw [q,hL] at b;cases b;rw [hd] at d;cases d
   ·obtain ⟨o,ov,a,b⟩:=R.fr.cells p hp
    refine ⟨o,ov,hs.extBut p.2 o (λq=> ?_) a,b⟩
    obtain ⟨oL,es,ep,hL,hd,_⟩:=hn
    rw [q,hL] at a;cases a;rw [hd] at b;cases b
 ·obtain ⟨c,hc⟩:=aaT.mp hc
  have hmem:=bC hc
  have hown:c∈own env:=List.mem_cons_of_mem _ (aaf.mpr ⟨_,hmem,rfl⟩)
  obtain ⟨o,ov,h1,h2⟩:=R.fr.cells _ hmem
  refine wpAny_storeName_cell R.fr.kind hx hc ⟨o,h1,h2⟩ (λh' hc' hs=> ?_)
  obtain ⟨o',h3,h4⟩:=hc'
  refine hQ ι () _ (aY.ownChange (tk:=s.toks) R hown hs (λo2 e es n d=> ?_) λim=> ?_) trivial
  ·dsimp only at h1;rw [h1] at e;cases e;rw [h2] at d;cases d
  ·have pr:ι<+:ι:=aam _
   refine ⟨R.fr.kind,R.fr.glob,R.fr.blt,?_,λy w e1 e2=> ?_,λp hp=> ?_,R.fr.ndup,R.fr.dis,R.fr.fresh⟩
   ·obtain ⟨m,hn,hm⟩:=R.fr.loc
    refine ⟨m,hn.sameBut hs (λq=> ?_),λy w e1 e2=> ?_⟩
    ·obtain ⟨oL,es,ep,hL,hd,_⟩:=hn
     dsimp only at h1
     rw [q,h1] at hL;cases hL;rw [h2] at hd;cases hd
    ·rcases ny e1 with ⟨rfl,rfl⟩ | ⟨hne,e1⟩
     ·rw [hx] at e2;cases e2
     ·obtain ⟨cw,a,b⟩:=hm y w e1 e2;exact ⟨cw,a,b.mono pr im⟩
   ·rcases ny e1 with ⟨rfl,rfl⟩ | ⟨hne,e1⟩
    ·exact ⟨c,o',cv,hc,h3,h4,hv.mono pr im⟩
    ·obtain ⟨c2,o2,cw,a,b,d,f⟩:=R.fr.cel y w e1 e2
     refine ⟨c2,o2,cw,a,hs.extBut c2 o2 (λq=> ?_) b,d,f.mono pr im⟩
     subst q
     haveI hm2:=bC a
     exact hne (fQ (congrArg (·.1) (nodup_snd R.fr.ndup hm2 hmem)))
   ·by_cases hpc:p.2=c
    ·exact ⟨o',some cv,by rw [hpc];exact h3,h4⟩
    ·obtain ⟨o2,ov2,a,b⟩:=R.fr.cells p hp
     exact ⟨o2,ov2,hs.extBut p.2 o2 hpc a,b⟩
where
 nodup_snd:∀ {l:List (Str×Addr)} {x y:Str} {c:Addr},(l.map (·.2)).Nodup->(x,c)∈l->(y,c)∈l->((x,c):Str×Addr)=(y,c)
  | [],_,_,_,_,h,_=>nomatch h
  | p::r,x,y,c,hn,h1,h2=>by
   rw [aaq,abd] at hn
   rcases aai.mp h1 with e1 | h1<;>rcases aai.mp h2 with e2 | h2
   ·rw [e1,e2]
   ·exact absurd (aaf.mpr ⟨_,h2,by rw [<- e1]⟩) hn.1
   ·exact absurd (aaf.mpr ⟨_,h1,by rw [<- e2]⟩) hn.1
   ·exact nodup_snd hn.2 h1 h2
theorem ze:wn ι h .next .next:=rfl
noncomputable def aL (x:String) (v:V):Cm Unit:=λq=> .ok () ⟨upd q.l x v,q.H⟩
theorem au {x:String} {p pos:Pos} {e:Expr} {m:Cm V} (h1:Ev hq k env e m) (hx:yI env x:=by exact .inl ∅) (hs:swapsWith e (some (.Name (Str.ofString x) p)) pos.line env=pure false:=by rfl) :
  Ex hq k env (.Assign [.Name (Str.ofString x) p] e pos) (m.b λv=>(aL x v).b λ_=> .p .next) :=
 λA ι q s ha R=>(aU.b (T':=λv Q E s₁=>wpAny G.M A (storeName env (Str.ofString x) v) (λ_=>Q .next) E s₁) (h1 A ι q s ha R) λa q' ι' b s' _ P hv =>
  aU.b (m:=aL x a) (T':=λ_ Q E s₁=>Q Flow.next s₁) (pG hx P.rel hv) λa2 q2 ι2 b2 s2 _ P2 _=>aU.ret0 (REL:=wn) P2.rel ze λQ E hQ=>hQ).imp λQ E x=>wpAny_Assign_Name x hs
theorem aW {e:Expr} {pos:Pos} {m:Cm V} (h1:Ev hq k env e m):Ex hq k env (.Return (some e) pos) (m.b λv=> .p (.ret v)) :=
 λA ι q s ha R=>(aU.b (T':=λv Q E s₁=>Q (.ret v) s₁) (h1 A ι q s ha R) λa q' ι' b s' _ P hv=>aU.ret0 P.rel ⟨b,rfl,hv⟩ λQ E hQ=>hQ).imp λQ E x=>wpAny_Return_some x
theorem cH {test:Expr} {body orelse:List Stmt} {pos:Pos} {m:Cm Bool} {m1 m2:Cm Fl} (h0:Tr hq k env test m) (h1:DL hq k env body m1) (h2:DL hq k env orelse m2) :
  Ex hq k env (.If test body orelse pos) (m.b λb=>if b then m1 else m2) :=
 λA ι q s ha R=>(aU.b (T':=λb Q E s₂=>if b then wpAny G.M A (execs body env) Q E s₂ else wpAny G.M A (execs orelse env) Q E s₂) (h0 A ι q s ha R) λa q' ι' b s' _ P hv=>by
  subst hv
  cases a with
  | true=>exact (h1 A ι' q' s' ha P.rel).imp λQ E x=>x
  | false=>exact (h2 A ι' q' s' ha P.rel).imp λQ E x=>x).imp λQ E x=>wpAny_If x
noncomputable def aB (m:Cm Fl) (m':Cm Fl):Cm Fl:=m.b λf=>match f with | .next=>m' | .ret v=> .p (.ret v)
theorem aT:DL hq k env [] (.p .next):=λA ι q s ha R=>aU.ret0 R ze λQ E hQ=>wpAny_execs_nil hQ
theorem aj {st:Stmt} {rest:List Stmt} {m m':Cm Fl} (h1:Ex hq k env st m) (h2:DL hq k env rest m'):DL hq k env (st::rest) (aB m m') :=
 λA ι q s ha R=>(aU.b (T':=λf Q E s'=>match f with | .next=>wpAny G.M A (execs rest env) Q E s' | f=>Q f s') (h1 A ι q s ha R) λa q' ι' b s' _ P hv=>by
  cases a with
  | next=>rw [show b= .next from hv];exact (h2 A ι' q' s' ha P.rel).imp λQ E x=>x
  | ret v=>obtain ⟨cv,rfl,hv⟩:=hv;exact aU.ret0 P.rel ⟨cv,rfl,hv⟩ λQ E hQ=>hQ).imp λQ E x=>wpAny_execs_cons x
theorem aq {st:Stmt} {m:Cm Fl} (h1:Ex hq k env st m):DL hq k env [st] m :=
 λA ι q s ha R=>(h1 A ι q s ha R).imp λQ E x=>wpAny_execs_cons (wpAny_mono x (λf s' y=>by cases f<;>first | exact wpAny_execs_nil y | exact y) λ_ _ y=>y)
theorem gG {e:Expr} {pos:Pos} {m:Cm V} (h1:Ev hq k env e m) (hi:interactive env=false) (hs:swapsWith e none pos.line env=pure false) :
  Ex hq k env (.Expr e pos) (m.b λ_=> .p .next) :=
 λA ι q s ha R=>(aU.b (T':=λv Q E s₁=>Q .next s₁) (h1 A ι q s ha R) λa q' ι' b s' _ P hv=>aU.ret0 P.rel ze λQ E hQ=>hQ).imp λQ E x=>by
  show wpAny _ _ _ _ _ _
  rw [exec_Expr env e pos hi hs]
  refine wpAny_bind (wpAny_standAt (wpAny_bind (wpAny_mono x (λv s' h'=> ?_) λ_ _ x=>x)))
  exact wpAny_dropValue h'
end
section
variable {hq:Bool} {k:Nat} {env:Env} {A:Around} {ι:List Addr} {q:S} {s:Shared} {H:Hp} {h:Heap}
noncomputable def vD (f:String) (v:V):List (String×V)->List (String×V)
 | []=>[(f,v)]
 | (g,w)::r=>if g=f then (g,v)::r else (g,w)::vD f v r
theorem gR {f g:String} {t:Tok}:(Value.str (Str.ofString g) t).isStr (Str.ofString f)=decide (g=f):=by
 show (Str.ofString g==Str.ofString f)=_
 by_cases e:g=f
 ·subst e;simp
 ·haveI:¬Str.ofString g=Str.ofString f:=λx=>e (fQ x)
  simp [e,this]
theorem pL:∀ {fs:List (String×V)} {es:List DictEntry},qJ ι h fs es-> ∀(f:String),
  (match fs.lookup f with | some v=> ∃cv,getL (Str.ofString f) es=some (some cv)/\aM ι h v cv | none=>getL (Str.ofString f) es=some none)
 | [],_,x,f=>by rw [show _=[] from x];rfl
 | (g,w)::fs,_,z2,f=>by
  obtain ⟨t,cv,es',q,a,b⟩:=z2
  subst q
  haveI ih:=pL b f
  rw [List.lookup_cons]
  dsimp only at a ⊢
  by_cases e:f=g
  ·subst e
   simp only [beq_self_eq_true]
   refine ⟨cv,?_,a⟩
   unfold getL
   rw [aaJ (by show Value.isStr _ _=true;rw [gR];simp)]
  ·haveI e':(f==g)=false:=by simpa using e
   rw [e']
   haveI hne:¬(g=f):=λx=>e x.symm
   haveI:getL (Str.ofString f) (⟨PyData.keyHash G.w.params (Str.ofString g),.str (Str.ofString g) t,cv⟩::es')=getL (Str.ofString f) es':=by
    unfold getL
    rw [aay (by show ¬(Value.isStr _ _=true);rw [gR];simpa using hne)]
    haveI:(DictEntry.refKey ⟨PyData.keyHash G.w.params (Str.ofString g),.str (Str.ofString g) t,cv⟩)=false:=rfl
    simp only [List.any_cons,this,Bool.false_or]
   rw [this]
   exact ih
theorem zm {f:String} {v:V} {cv:Value} {tk:Tok} (hv:aM ι h v cv):∀ {fs:List (String×V)} {es:List DictEntry},qJ ι h fs es ->
  qJ ι h (vD f v fs) (putL (Str.ofString f) (PyData.keyHash G.w.params (Str.ofString f)) (.str (Str.ofString f) tk) cv es)
 | [],_,x=>by rw [show _=[] from x];exact ⟨tk,cv,[],rfl,hv,rfl⟩
 | (g,w)::fs,_,z2=>by
  obtain ⟨t,cw,es',q,a,b⟩:=z2
  subst q
  show qJ ι h (if g=f then (g,v)::fs else (g,w)::vD f v fs) (if (Value.str (Str.ofString g) t).isStr (Str.ofString f) then _ else _::putL (Str.ofString f) (PyData.keyHash G.w.params (Str.ofString f)) (.str (Str.ofString f) tk) cv es')
  rw [gR]
  by_cases e:g=f
  ·subst e;simp only [decide_true,if_true];exact ⟨t,cv,es',rfl,hv,b⟩
  ·simp only [e,decide_false,Bool.false_eq_true,if_false];exact ⟨t,cw,_,rfl,a,zm hv b⟩
theorem zl:∀ {fs:List (String×V)} {es:List DictEntry},qJ ι h fs es->es.length=fs.length
 | [],_,x=>by rw [show _=[] from x];rfl
 | _::_,_,z2=>by obtain ⟨_,_,_,q,_,b⟩:=z2;subst q;simp [zl b]
noncomputable def AI (K:Frag) (C:Addr) (name:Str):Bool:=plainGet K C name&&hasDictIn K C&&(match findIn K (.ref C) name with | some attr=>noGet K attr | none=>false)
noncomputable def Fe (K:Frag) (C:Addr) (name:Str):Bool :=
 (findIn K (.ref C) "__setattr__" == some (some (.builtin "object.__setattr__")))&&plainOver K C&&(takerIn K C name==some none)&&hasDictIn K C
def sB (f:String):Prop:= ∀c C,G.cls c=some C->AI G.K C (Str.ofString f)=true
def sC (f:String):Prop:= ∀c C,G.cls c=some C->Fe G.K C (Str.ofString f)=true
theorem Am {v:V} {cv:Value} (r:aM ι h v cv):handedIn cv=true:=by
 cases v with
 | none=>rw [show cv= .none from r];rfl
 | bool b=>rw [show cv= .bool b from r];rfl
 | int i=>obtain ⟨t,rfl⟩:=r;rfl
 | str y=>obtain ⟨t,rfl⟩:=r;rfl
 | tup xs=>obtain ⟨a,vs,rfl,_⟩:=r;rfl
 | ref i=>obtain ⟨a,_,rfl⟩:=r;rfl
 | inst c i=>obtain ⟨a,x,C,o,_,_,rfl,_⟩:=r;rfl
 | exc c=>obtain ⟨x,C,o,_,rfl,_⟩:=r;rfl
 | scr=>rw [show cv= .ref G.sa from r];rfl
theorem xM (R:eQ ι H h) {c:String} {i:Nat} {cv:Value} {fs:List (String×V)} (r:aM ι h (.inst c i) cv) (e:H[i]? = some (.flds fs)) :
  ∃a x C ox es n,A7 (ι[i]? = some a) (G.cls c=some C) (cv= .ref x) (InstAt h x ox C (some (dictOf es n))) (ox.dict=some a) (h.get? a=some (dictOf es n)) (qJ ι h fs es):=by
 refine bW λY9 y9=> ?_
 obtain ⟨a,x,C,o,h1,h2,h3,h4,h5,h6,h7⟩:=r
 obtain ⟨a',es,n,g1,g2,g3⟩:=R.flds e
 refine y9 ?_
 obtain rfl:a=a':=Option.some.inj (h1.symm.trans g1)
 exact ⟨a,x,C,o,es,n,h1,h2,h3,⟨h4,h5,by unfold notCls;rw [h7],by rw [h6];exact g2⟩,h6,g2,g3⟩
noncomputable def aE (f:String):V->Cm V
 | .inst _ i=>λq=>match q.H[i]? with
  | some (.flds fs)=>(match fs.lookup f with | some v=> .ok v q | none=> .stuck)
  | _=> .stuck
 | _=> .stk
theorem Hr (C:bL G) {f:String} (hf:sB f) {v:V} {cv:Value} {ex:Bool} (R:cL A env ι q s) (h1:aM ι s.heap v cv):aU A env ι s (aE f v q) (aM) (mh A (getAttr cv (Str.ofString f) ex)):=by
 cases v with
 | inst c i =>
  unfold aE;dsimp only
  cases e:q.H[i]? with
  | none=>trivial
  | some o =>
  cases o with
  | flds fs =>
   refine bW λY9 y9=> ?_
   obtain ⟨a,x,C',ox,es,n,g1,g2,rfl,I,g3,g4,g5⟩:=xM R.st h1 e
   refine y9 ?_
   haveI hg:=pL g5 f
   dsimp only
   cases hv:fs.lookup f with
   | none=>trivial
   | some v =>
    rw [hv] at hg
    refine bW λY9 y9=> ?_
    obtain ⟨cw,hl,hr⟩:=hg
    haveI hok:=hf c C' g2
    unfold AI at hok
    rw [Bool.and_eq_true,Bool.and_eq_true] at hok
    obtain ⟨⟨k1,k2⟩,k3⟩:=hok
    refine y9 ?_
    cases ha:findIn G.K (.ref C') (Str.ofString f) with
    | some attr =>
     rw [ha] at k3
     exact aU.ret R hr λQ E hQ=>get_value (C.X.keeps R.st.keep) I (plainGet_of k1).1 (findObj_own k2 ha k3 hl) (Am hr) hQ
    | none=>rw [ha] at k3;cases k3
  | _=>trivial
 | _=>trivial
theorem aF (C:bL G) {f:String} (hf:sB f) {e:Expr} {pos:Pos} {m:Cm V} (h1:Ev hq k env e m)
  (he:eval (.Attribute e (Str.ofString f) pos) env=(do let o <- eval e env;standAt pos.atName;let r <- holding [o] (getAttr o (Str.ofString f) true);letTemporaryGo e o r;pure r):=by rfl) :
  Ev hq k env (.Attribute e (Str.ofString f) pos) (m.b λv=>aE f v) :=
 λA ι q s ha R=>(aU.b (T':=λv Q E s₁=>wpAny G.M A (getAttr v (Str.ofString f) true) Q E s₁) (h1 A ι q s ha R) λa q' ι' b s' _ P hv=>Hr C hf P.rel hv).imp λQ E x=>Attribute_any_ x he
theorem Go {prog:Program} {w:World} {K:Frag} {C x dx:Addr} {ox:Obj} {R:Result->Shared->Prop} {name:Str} {tk:Tok} {v:Value} {es:List DictEntry} {n:Nat} {s:Shared} {A:Around} (X:K.In s.heap)
  (I:InstAt s.heap x ox C (some (dictOf es n))) (hd:ox.dict=some dx) (D:s.heap.get? dx=some (dictOf es n)) (hp:plainOver K C=true) (ht:takerIn K C name=some none) (hh:hasDictIn K C=true)
  (hl:(getL name es).isSome=true) (hz:(putL name (PyData.keyHash w.params name) (.str name s.toks) v es).length<=1000)
  (h:∀h',h'.get? dx=some (dictOf (putL name (PyData.keyHash w.params name) (.str name s.toks) v es) (putN name es n))->Heap.SameBut dx s.heap h'->R (.ok (.ret .none)) { s with heap:=h',toks:=s.toks+1 }) :
  codeAny (model prog w) A (.call (.builtin "object.__setattr__") ⟨[.ref x,.str name tk,v],[]⟩) R s:=by
 refine osa_open X I hp ht λb=> ?_
 refine bW λY9 y9=> ?_
 obtain ⟨cd,hc,hd'⟩:=any_some hh
 obtain ⟨hx,hcl,hn,-⟩:=I
 obtain ⟨oc,odi,oda,osl⟩:=ox
 refine y9 ?_
 dsimp only at hcl hd
 subst hcl hd
 refine wpAny_bind (wpAny_pure (wpAny_bind (wpAny_bind (wpAny_loadPart hx (wpAny_bind ((looks_clsIn X hc).here ?_))))))
 rw [hd']
 refine wpAny_pure (a:=some dx) (wpAny_bind (wpAny_pure (wpAny_bind ?_)))
 unfold nsSet
 refine wpAny_bind (wpAny_bind (wpAny_askSetting (wpAny_pure (wpAny_bind (wpAny_mkText (wpAny_bind (wpAny_loadPart D ?_)))))))
 dsimp only
 haveI c:(!(es.toArray).any (·.key.isStr name)&&(es.toArray).any (·.refKey))=false:=by
  unfold getL at hl
  split at hl
  ·rename_i en he
   haveI:(es.toArray).any (·.key.isStr name)=true:=by simpa using ⟨en,aa3 he,by simpa using List.find?_some he⟩
   rw [this];rfl
  ·split at hl
   ·cases hl
   ·rename_i z
    haveI:(es.toArray).any (·.refKey)=false:=by simpa using z
    rw [this,Bool.and_false]
 have U:=Heap.get?_update_self (h:=s.heap) (Obj.putName name (PyData.keyHash w.params name) (.str name s.toks) v) D (by rw [putName_dict];rfl)
 rw [putName_dict] at U
 rw [aRefKeyMayBeTheName_at,c]
 refine wpAny_updatePart D ?_
 refine wpAny_bind (wpAny_lookBehind U (pastItsLine_dict (by rw [aaR,sizeLine_eq];exact b9 0x190bc000003e8a0011 hz)) ?_)
 exact wpAny_pure (h _ U (Heap.SameBut.update ..))
noncomputable def b7 (f:String) (v:V):V->Cm Unit
 | .inst _ i=>λq=>match q.H[i]? with
  | some (.flds fs)=>if fs.length<100 then .ok () { q with H:=q.H.set i (.flds (vD f v fs)) } else .stuck
  | _=> .stuck
 | _=> .stk
theorem zo (f:String) (v:V):∀fs:List (String×V),(vD f v fs).length<=fs.length+1
 | []=>aaK _
 | (g,w)::r=>by
  show List.length (if g=f then (g,v)::r else (g,w)::vD f v r)<=_
  split
  ·exact Nat.le_succ _
  ·exact Nat.succ_le_succ (zo f v r)
theorem CM (C:bL G) {f:String} (hf:sC f) {o v:V} {co cv:Value} (R:cL A env ι q s) (h1:aM ι s.heap o co) (h2:aM ι s.heap v cv) :
  aU A env ι s (b7 f v o q) (λ_ _ _ _=>True) (mh A (setAttr co (Str.ofString f) cv)):=by
 cases o with
 | inst c i =>
  unfold b7;dsimp only
  cases e:q.H[i]? with
  | none=>trivial
  | some o =>
  cases o with
  | flds fs =>
   dsimp only
   split
   ·rename_i hlen
    refine bW λY9 y9=> ?_
    obtain ⟨a,x,C',ox,es,n,g1,g2,rfl,I,g3,g4,g5⟩:=xM R.st h1 e
    haveI hok:=hf c C' g2
    unfold Fe at hok
    simp only [Bool.and_eq_true,beq_iff_eq] at hok
    obtain ⟨⟨⟨k1,k2⟩,k3⟩,k4⟩:=hok
    refine y9 ?_
    have hg:=pL g5 f
    haveI hl:(getL (Str.ofString f) es).isSome=true:=by
     cases hv:fs.lookup f with
     | some v=>rw [hv] at hg;obtain ⟨cw,hg,_⟩:=hg;rw [hg];rfl
     | none=>rw [hv] at hg;rw [hg];rfl
    intro Q E hQ
    have fr:=zm (tk:=s.toks+1) (f:=f) h2 g5
    refine set_plain (C.X.keeps R.st.keep) I k1 (Go (s:={ s with toks:=s.toks+1 }) (C.X.keeps R.st.keep) I g3 g4 k2 k3 k4 hl ?_ λh' e1 e2=> ?_)
    ·show (putL _ _ (Value.str _ (s.toks+1)) _ _).length<=1000
     rw [zl fr]
     haveI:=zo f v fs
     exact cu 0x3e8a10190c101000064a0112 hlen this
    ·exact hQ ι () _ (aY.set R g1 e2 λim=>⟨_,_,e1,fr.mono (aam _) im⟩) trivial
   ·trivial
  | _=>trivial
 | _=>trivial
theorem eg (C:bL G) {f:String} (hf:sC f) {o e:Expr} {p pos:Pos} {m1 m2:Cm V} (h1:Ev hq k env e m1) (h2:Ev hq k env o m2)
  (hs:swapsWith e (some (.Attribute o (Str.ofString f) p)) pos.line env=pure false) :
  Ex hq k env (.Assign [.Attribute o (Str.ofString f) p] e pos) (m1.b λv=>m2.b λo=>(b7 f v o).b λ_=> .p .next) :=
 λA ι q s ha R=>(aU.b (T':=λv Q E s₁=>wpAny G.M A (eval o env) (λov s₂=>wpAny G.M A (setAttr ov (Str.ofString f) v) (λ_=>Q .next) E s₂) E s₁) (h1 A ι q s ha R) λa q' ι' b s' _ P hv =>
  aU.b (T':=λov Q E s₁=>wpAny G.M A (setAttr ov (Str.ofString f) b) (λ_=>Q Flow.next) E s₁) (h2 A ι' q' s' ha P.rel) λa2 q2 ι2 b2 s2 _ P2 hv2 =>
  aU.b (T':=λ_ Q E s₁=>Q Flow.next s₁) (CM C hf P2.rel hv2 (P2.vrel P.rel hv)) λa3 q3 ι3 b3 s3 _ P3 _=>aU.ret0 P3.rel ze λQ E hQ=>hQ).imp λQ E x=>plainObj_wpAny_Assign_Attribute x hs
end
section
variable {hq:Bool} {k:Nat} {env:Env} {A:Around} {ι:List Addr} {q:S} {s:Shared} {H:Hp} {h:Heap}
theorem zu:∀ {vs:List Value} {ns:List Int},IntsAre vs ns-> ∀ {i:Nat} {n:Int},ns[i]? = some n-> ∃t,vs[i]? = some (.int n t)
 | [],[],_,i,n,e=>by simp at e
 | [],_::_,x,_,_,_=>by cases x
 | _::_,[],x,_,_,_=>by cases x
 | v::vs,n0::ns,x,i,n,e=>by
  haveI hx:(∃t,v= .int n0 t)/\IntsAre vs ns:=by
   cases x with
   | cons a b=>exact ⟨⟨_,rfl⟩,by assumption⟩
  obtain ⟨⟨t,rfl⟩,hx⟩:=hx
  cases i with
  | zero=>simp at e;subst e;exact ⟨t,rfl⟩
  | succ i=>simpa using zu hx (by simpa using e)
theorem kL:∀ {vs:List Value} {ns:List Int},IntsAre vs ns->aO ι h (ns.map .int) vs
 | [],[],_=>yD
 | [],_::_,x=>by cases x
 | _::_,[],x=>by cases x
 | v::vs,n0::ns,x=>by
  haveI hx:(∃t,v= .int n0 t)/\IntsAre vs ns:=by
   cases x with
   | cons a b=>exact ⟨⟨_,rfl⟩,by assumption⟩
  obtain ⟨⟨t,rfl⟩,hx⟩:=hx
  exact oY (Aj _ _) (kL hx)
noncomputable def aJ (o i:V):Cm V:=λq=>match o,i with
 | .ref r,.int k=>(match q.H[r]? with
  | some (.list xs)=>if 0<=k/\k<1000000 then (match xs[k.toNat]? with | some v=> .ok v q | none=> .stuck) else .stuck
  | some (.dict es)=>(match es.lookup k with | some v=> .ok v q | none=> .stuck)
  | _=> .stuck)
 | .tup xs,.int k=>if 0<=k/\k<1000000 then (match xs[k.toNat]? with | some v=> .ok v q | none=> .stuck) else .stuck
 | .scr,.int k=>if 0<=k/\k<1000000 then (match sn[k.toNat]? with | some n=> .ok (.int n) q | none=> .stuck) else .stuck
 | _,_=> .stuck
noncomputable def JY {α:Type} (q:S) (P:α->Prop):sG S α->Prop
 | .ok v q'=>q'=q/\P v
 | .exc _ _=>False
 | .stuck=>True
theorem aU.ro {r:sG S V} {T:PT Value} (R:cL A env ι q s) (h:JY q (λv=> ∀Q E,(∀cv tk,aM ι s.heap v cv->Q cv { s with toks:=tk })->T Q E s) r):aU A env ι s r (aM) T:=by
 cases r with
 | ok v q'=>obtain ⟨rfl,h⟩:=h;exact λQ E x=>h Q E λcv tk hr=>x ι cv _ (aY.toks R tk) hr
 | exc _ _=>exact h.elim
 | stuck=>trivial
theorem Ga (C:bL G) {value slice:Expr} (hs:∀o i,subscripted slice false o i=operate [o,i] (getItem o i)) {o i:V} {co ci:Value} (st:eQ ι q.H s.heap) (h1:aM ι s.heap o co) (h2:aM ι s.heap i ci) :
  JY q (λv=> ∀Q E,(∀cv tk,aM ι s.heap v cv->Q cv { s with toks:=tk })->wpAny G.M A (subscriptTail value slice co ci) Q E s) (aJ o i q):=by
 cases o with
 | ref r =>
  cases i with
  | int k =>
   refine bW λY9 y9=> ?_
   obtain ⟨a,ha,rfl⟩:=h1
   obtain ⟨t,rfl⟩:=h2
   refine y9 ?_
   unfold aJ;dsimp only
   cases e:q.H[r]? with
   | none=>trivial
   | some o =>
    cases o with
    | list xs =>
     dsimp only
     split
     ·rename_i hk
      cases hv:xs[k.toNat]? with
      | some v =>
       refine bW λY9 y9=> ?_
       obtain ⟨a1,n1,vs,g1,g2,g3⟩:=st.list e
       refine y9 ?_
       obtain rfl:a=a1:=Option.some.inj (ha.symm.trans g1)
       obtain ⟨cv,hcv,hr⟩:=g3.get hv
       have hl:=g2.isList
       refine ⟨rfl,λQ E hQ=> ?_⟩;haveI hQ:=hQ cv s.toks hr;exact tail_any hl.typeIs slot_list_getitem.lookup (wpAny_getItem_list hl hk.1 (IM (bY 0xf42400a090f4240a0911 hk.2)) (by simpa using hcv) hQ) (hs _ _)
      | none=>trivial
     ·trivial
    | dict es =>
     dsimp only
     cases hv:es.lookup k with
     | some v =>
      refine bW λY9 y9=> ?_
      obtain ⟨a1,kvs,g1,g2,g3⟩:=st.dict e
      refine y9 ?_
      obtain rfl:a=a1:=Option.some.inj (ha.symm.trans g1)
      haveI hg:=hG g3 k
      rw [hv] at hg
      obtain ⟨cv,hcv,hr⟩:=hg
      refine ⟨rfl,λQ E hQ=> ?_⟩;exact tail_any g2.mapOf.typeIs slot_dict_getitem.lookup (wpAny_getItem_of (intKind_is G.prog G.w k t) g2.mapOf hcv (hQ cv _ hr)) (hs _ _)
     | none=>trivial
    | _=>trivial
  | _=>trivial
 | tup xs =>
  cases i with
  | int k =>
   refine bW λY9 y9=> ?_
   obtain ⟨a,vs,rfl,ht,hv⟩:=h1
   obtain ⟨t,rfl⟩:=h2
   refine y9 ?_
   unfold aJ;dsimp only
   split
   ·rename_i hk
    cases hx:xs[k.toNat]? with
    | some v =>
     obtain ⟨cv,hcv,hr⟩:=hv.get hx
     haveI hlen:=(aaa.mp hcv).1
     haveI hj:seqIndex? k vs.toArray.size=some k.toNat:=by
      unfold seqIndex?
      rw [aaR]
      have:¬(k<0):=bY 0x90d009811 hk.1
      simp only [this,if_false]
      have h2:0<=k/\k<(vs.length:Int):=⟨hk.1,jF 0x1f090f08110112 hlen (aaY _)⟩
      simp only [h2,and_self,if_true,decide_true,Bool.and_true,Bool.and_self]
     refine ⟨rfl,λQ E hQ=> ?_⟩;haveI hQ:=hQ cv s.toks hr;exact tail_any ht.typeIs slot_tuple_getitem.lookup (getItem_tuple ht (J5 (hk.1)) (IM (bY 0xf42400a090f4240a0911 hk.2)) hj (by simpa using hcv) hQ) (hs _ _)
    | none=>trivial
   ·trivial
  | _=>trivial
 | scr =>
  cases i with
  | int k =>
   rw [show co= .ref G.sa from h1]
   obtain ⟨t,rfl⟩:=h2
   unfold aJ;dsimp only
   split
   ·rename_i hk
    cases hn:sn[k.toNat]? with
    | some n =>
     obtain ⟨t',ht'⟩:=zu C.isInts hn
     have hl:s.heap.IsList G.sa G.sv.toArray:=C.scr.at λo e=>st.keep _ _ e
     refine ⟨rfl,λQ E hQ=> ?_⟩;haveI hQ:=hQ _ s.toks (Aj n t');exact tail_any hl.typeIs slot_list_getitem.lookup (wpAny_getItem_list hl hk.1 (IM (bY 0xf42400a090f4240a0911 hk.2)) (by simpa using ht') hQ) (hs _ _)
    | none=>trivial
   ·trivial
  | _=>trivial
 | _=>trivial
theorem Ht (C:bL G) {value slice:Expr} (hs:∀o i,subscripted slice false o i=operate [o,i] (getItem o i)) {o i:V} {co ci:Value} (R:cL A env ι q s) (h1:aM ι s.heap o co) (h2:aM ι s.heap i ci) :
  aU A env ι s (aJ o i q) (aM) (mh A (subscriptTail value slice co ci)):= .ro R (Ga C hs R.st h1 h2)
theorem aH (C:bL G) {e i:Expr} {pos:Pos} {m1 m2:Cm V} (h1:Ev hq k env e m1) (h2:Ev hq k env i m2) (hs:∀o v,subscripted i false o v=operate [o,v] (getItem o v):=by exact λ_ _=>rfl) :
  Ev hq k env (.Subscript e i pos) (m1.b λo=>m2.b λv=>aJ o v) :=
 λA ι q s ha R=>(aU.b (h1 A ι q s ha R) λa q' ι' b s' _ P hv=>aU.b (T':=λv Q E s₁=>wpAny G.M A (subscriptTail e i b v) Q E s₁) (h2 A ι' q' s' ha P.rel) λa2 q2 ι2 b2 s2 _ P2 hv2 =>
  Ht C hs P2.rel (P2.vrel P.rel hv) hv2).imp λQ E x=>Subscript_ x
noncomputable def y6 (k:Int) (v:V) (es:List (Int×V)):List (Int×V):=if (es.lookup k).isSome then es.map (λe=>if e.1=k then (e.1,v) else e) else es++[(k,v)]
noncomputable def cY (o i v:V):Cm Unit:=λq=>match o,i with
 | .ref r,.int k=>(match q.H[r]? with
  | some (.list xs)=>if 0<=k/\k<1000000/\k<xs.length then .ok () { q with H:=q.H.set r (.list (xs.set k.toNat v)) } else .stuck
  | some (.dict es)=>if es.length<1000000 then .ok () { q with H:=q.H.set r (.dict (y6 k v es)) } else .stuck
  | _=> .stuck)
 | _,_=> .stuck
theorem tN:∀ {es:List (Int×V)} {kvs:List (Int×Value)},jL ι h es kvs->kvs.length=es.length
 | [],_,x=>by rw [show _=[] from x];rfl
 | _::_,_,z2=>by obtain ⟨_,_,q,_,b⟩:=z2;subst q;simp [tN b]
theorem tO {k:Int} {v:V} {cv:Value} (hv:aM ι h v cv):∀ {es:List (Int×V)} {kvs:List (Int×Value)},jL ι h es kvs->jL ι h (es.map (λe=>if e.1=k then (e.1,v) else e)) (kvs.map (λkv=>if kv.1=k then (kv.1,cv) else kv))
 | [],_,x=>by rw [show _=[] from x];rfl
 | (k',w)::es,_,z2=>by
  refine bW λY9 y9=> ?_
  obtain ⟨cw,kvs',q,a,b⟩:=z2
  refine y9 ?_
  subst q
  rw [aaq,aaq]
  dsimp only
  by_cases e:k'=k
  ·simp only [e,if_true];exact ⟨cv,_,rfl,hv,tO hv b⟩
  ·simp only [e,if_false];exact ⟨cw,_,rfl,a,tO hv b⟩
theorem rJ:∀ {es:List (Int×V)} {kvs:List (Int×Value)},jL ι h es kvs-> ∀ {es':List (Int×V)} {kvs':List (Int×Value)},jL ι h es' kvs'->jL ι h (es++es') (kvs++kvs')
 | [],_,x,_,_,y=>by rw [show _=[] from x];exact y
 | _::_,_,z2,_,_,y=>by obtain ⟨cv,kvs',q,a,b⟩:=z2;subst q;exact ⟨cv,_,rfl,a,rJ b y⟩
theorem yX {k:Int}:∀ {es:List (Int×V)} {kvs:List (Int×Value)},jL ι h es kvs->kvs.any (λkv=>kv.1=k)=(es.lookup k).isSome
 | [],_,x=>by rw [show _=[] from x];rfl
 | (k',w)::es,_,z2=>by
  obtain ⟨cw,kvs',q,a,b⟩:=z2
  subst q
  rw [List.any_cons,List.lookup_cons,yX b]
  dsimp only
  by_cases e:k=k'
  ·subst e;simp
  ·haveI e':(k==k')=false:=by simpa using e
   haveI e2:¬(k'=k):=λx=>e x.symm
   rw [e'];simp [e2]
theorem Ea {k:Int} {v:V} {cv:Value} (hv:aM ι h v cv) {es:List (Int×V)} {kvs:List (Int×Value)} (x:jL ι h es kvs):jL ι h (y6 k v es) (stored kvs k cv):=by
 unfold y6 stored
 rw [yX x]
 split
 ·exact tO hv x
 ·exact rJ x ⟨cv,[],rfl,hv,rfl⟩
theorem CO (C:bL G) {o i v:V} {co ci cv:Value} (R:cL A env ι q s) (h1:aM ι s.heap o co) (h2:aM ι s.heap i ci) (h3:aM ι s.heap v cv) :
  aU A env ι s (cY o i v q) (λ_ _ _ _=>True) (mh A (setItem co ci cv)):=by
 cases o with
 | ref r =>
  cases i with
  | int k =>
   refine bW λY9 y9=> ?_
   obtain ⟨a,ha,rfl⟩:=h1
   obtain ⟨t,rfl⟩:=h2
   refine y9 ?_
   unfold cY;dsimp only
   cases e:q.H[r]? with
   | none=>trivial
   | some o =>
    cases o with
    | list xs =>
     dsimp only
     split
     ·rename_i hk
      refine bW λY9 y9=> ?_
      obtain ⟨a1,n1,vs,g1,g2,g3⟩:=R.st.list e
      refine y9 ?_
      obtain rfl:a=a1:=Option.some.inj (ha.symm.trans g1)
      haveI hlen:=g3.length
      intro Q E hQ
      refine setItem_plain g2 hk.1 (IM (bY 0xf42400a090f4240a0911 hk.2.1)) (by rw [aaR,hlen];exact hk.2.2) λh' e1 e2=> ?_
      refine hQ ι () _ (aY.set (tk:=s.toks) R g1 e2 λim=>⟨vs.set k.toNat cv,?_,(g3.mono (aam _) im).set _ (h3.mono (aam _) im)⟩) trivial
      simpa using e1
     ·trivial
    | dict es =>
     dsimp only
     split
     ·rename_i hk
      refine bW λY9 y9=> ?_
      obtain ⟨a1,kvs,g1,g2,g3⟩:=R.st.dict e
      refine y9 ?_
      obtain rfl:a=a1:=Option.some.inj (ha.symm.trans g1)
      intro Q E hQ
      refine wpAny_setItem_pairs (intKind_is G.prog G.w k t) g2 (λh' e1 e2=> ?_) (by rw [tN g3,sizeLine_eq];exact b9 0xb000f4240a0111 hk)
      exact hQ ι () _ (aY.set R g1 e2 λim=>⟨_,e1,Ea (h3.mono (aam _) im) (g3.mono (aam _) im)⟩) trivial
     ·trivial
    | _=>trivial
  | _=>trivial
 | _=>trivial
where
 setItem_plain {prog:Program} {w:World} {A:Around} {E:Value->Shared->Prop} {s:Shared} {l:Addr} {items:Array Value} {n:Nat} {k:Int} {t:Tok} {v:Value} {Q:Unit->Shared->Prop} (hl:IsL s.heap l items n)
   (h0:0<=k) (hfit:k<2 ^ 63) (hn:k<items.size)
   (hQ:∀h',h'.PlainList l (items.setIfInBounds k.toNat v)->Heap.SameBut l s.heap h'->Q () { s with heap:=h' }) :
   wpAny (model prog w) A (setItem (.ref l) (.int k t) v) Q E s :=
  ki_setAt hl h0 hfit hn (hQ _ ⟨_,hl.update _⟩ (Heap.SameBut.update ..))
theorem fm (C:bL G) {o i e:Expr} {p pos:Pos} {m1 m2 m3:Cm V} (h1:Ev hq k env e m1) (h2:Ev hq k env o m2) (h3:Ev hq k env i m3)
  (hs:swapsWith e (some (.Subscript o i p)) pos.line env=pure false) :
  Ex hq k env (.Assign [.Subscript o i p] e pos) (m1.b λv=>m2.b λo=>m3.b λi=>(cY o i v).b λ_=> .p .next) :=
 λA ι q s ha R=>(aU.b (T':=λv Q E s₁=>wpAny G.M A (eval o env) (λov s₂=>wpAny G.M A (eval i env) (λiv s₃=>wpAny G.M A (setItem ov iv v) (λ_=>Q Flow.next) E s₃) E s₂) E s₁) (h1 A ι q s ha R) λa q' ι' b s' _ P hv =>
  aU.b (T':=λov Q E s₁=>wpAny G.M A (eval i env) (λiv s₃=>wpAny G.M A (setItem ov iv b) (λ_=>Q Flow.next) E s₃) E s₁) (h2 A ι' q' s' ha P.rel) λa2 q2 ι2 b2 s2 _ P2 hv2 =>
  aU.b (T':=λiv Q E s₁=>wpAny G.M A (setItem b2 iv b) (λ_=>Q Flow.next) E s₁) (h3 A ι2 q2 s2 ha P2.rel) λa3 q3 ι3 b3 s3 _ P3 hv3 =>
  aU.b (T':=λ_ Q E s₁=>Q Flow.next s₁) (CO C P3.rel (P3.vrel P2.rel hv2) hv3 (P3.vrel P2.rel (P2.vrel P.rel hv))) λa4 q4 ι4 b4 s4 _ P4 _=>aU.ret0 P4.rel ze λQ E hQ=>hQ).imp λQ E x=>wpAny_Assign_Subscript x hs
abbrev Bv (hq:Bool) (k:Nat) (env:Env) (es:List Expr) (m:Cm (List V)):Prop:= ∀pos,Sem.Is hq k env (λA=>mh A (spliced (backTo pos (starEach es env)))) m (aO)
theorem ai:Bv hq k env [] (.p []):=λpos A ι q s ha R=>aU.ret0 R yD λQ E hQ=>wpAny_items_nil hQ
theorem ae {e:Expr} {es:List Expr} {m:Cm V} {m':Cm (List V)} (h1:Ev hq k env e m) (h2:Bv hq k env es m') (he:starEach (e::es) env=(false,eval e env)::starEach es env:=by kernel_rfl) :
  Bv hq k env (e::es) (m.b λv=>m'.b λvs=> .p (v::vs)) :=
 λpos A ι q s ha R=>(aU.b (T':=λv Q E s₁=>wpAny G.M A (spliced (backTo pos (starEach es env))) (λvs s₂=>Q (v::vs) s₂) E s₁) (h1 A ι q s ha R) λa q' ι' b s' _ P hv =>
  aU.b (T':=λvs Q E s₁=>Q (b::vs) s₁) (h2 pos A ι' q' s' ha P.rel) λa2 q2 ι2 b2 s2 _ P2 hv2=>aU.ret0 P2.rel (oY (P2.vrel P.rel hv) hv2) λQ E hQ=>hQ).imp λQ E x=>wpAny_items_cons x he
noncomputable def eU (vs:List V):Cm V:=λq=>if vs.length<=1000000 then .ok (.ref q.H.length) { q with H:=q.H++[.list vs] } else .stuck
theorem dM {es:List Expr} {pos:Pos} {m:Cm (List V)} (h1:Bv hq k env es m):Ev hq k env (.List es pos) (m.b λvs=>eU vs) :=
 λA ι q s ha R=>(aU.b (T':=λvs Q E s₁=>vs.length<=sizeLine/\Q (Value.ref s₁.heap.objs.size) { s₁ with heap:=s₁.heap.push { cls:= .type "list",data:= .seq vs.toArray } }) (h1 pos A ι q s ha R) λa q' ι' b s' _ P hv=>by
  unfold eU
  split
  ·rename_i hl
   refine aU.newList (β:=Value) (tk:=s'.toks) P.rel hv λQ E hQ=>⟨?_,hQ⟩
   rw [hv.length,sizeLine_eq];exact b9 0xb000f4240a0011 hl
  ·trivial).imp λQ E x=>wpAny_List x
theorem FA {xs:List V} {vs:List Value} (R:cL A env ι q s) (hx:aO ι s.heap xs vs):aM ι (s.heap.push { cls:= .type "tuple",data:= .seq vs.toArray }) (.tup xs) (.ref s.heap.objs.size) :=
 ⟨_,vs,rfl,⟨_,aaM _ rfl,rfl,0,rfl⟩,hx.mono (aam _) (.of_stays (iO _ _))⟩
noncomputable def lg (vs:List V):Cm V:=if vs.length<=1000000 then .p (.tup vs) else .stk
noncomputable def Gl:Cm V:=λq=> .ok (.ref q.H.length) { q with H:=q.H++[.dict []] }
theorem d9 {es:List Expr} {kk:Nat} {pos:Pos} {m:Cm (List V)} (h1:Bv hq k env es m):Ev hq k env (.Tuple es kk pos) (m.b λvs=>lg vs) :=
 λA ι q s ha R=>(aU.b (T':=λvs Q E s₁=>vs.length<=sizeLine/\Q (Value.ref s₁.heap.objs.size) { s₁ with heap:=s₁.heap.push { cls:= .type "tuple",data:= .seq vs.toArray } }) (h1 pos A ι q s ha R) λa q' ι' b s' _ P hv=>by
  unfold lg
  split
  ·rename_i hl
   refine aU.grew (tk:=s'.toks) P.rel (iO _ _) (FA P.rel hv) λQ E hQ=>⟨?_,hQ⟩
   rw [hv.length,sizeLine_eq];exact b9 0xb000f4240a0011 hl
  ·trivial).imp λQ E x=>wpAny_Tuple x
theorem FS {pos:Pos}:Ev hq k env (.Dict [] [] pos) Gl:=λA ι q s ha R =>
 aU.alloc (tk:=s.toks) (h':=s.heap.push { cls:= .type "dict",data:= .dict #[] }) R (iO _ _) (aaH (aaK _))
  ⟨[],⟨_,#[],0,aaM _ rfl,⟨rfl,rfl,rfl⟩,rfl,λ_ he=>by simp at he,Pairs.nil,List.nodup_nil⟩,rfl⟩ (gD R.st _) λQ E hQ=>by
  show wpAny _ _ (do standAt pos;dictDisplay []) Q E s
  refine wpAny_bind (wpAny_standAt ?_)
  show wpAny _ _ newDict Q E s
  exact wpAny_newObj_type hQ
noncomputable def av (o:V) (H:Hp):Option (List V):=match o with
 | .ref i=>(match H[i]? with | some (.list xs)=>some xs | _=>none)
 | .scr=>some (sn.map .int)
 | _=>none
noncomputable def sr (o u:V):Cm V:=λq=>match av o q.H,u with
 | some xs,.int b=>if 0<=b/\xs.length<=1000000 then .ok (.ref q.H.length) { q with H:=q.H++[.list (xs.take b.toNat)] } else .stuck
 | _,_=> .stuck
noncomputable def yZ (o u:V):Cm V:=λq=>match av o q.H,u with
 | some xs,.int b=>if 0<=b/\xs.length<=1000000 then .ok (.ref q.H.length) { q with H:=q.H++[.list (xs.drop b.toNat)] } else .stuck
 | _,_=> .stuck
theorem fO (C:bL G) {o:V} {co:Value} {xs:List V} (R:eQ ι H h) (r:aM ι h o co) (e:av o H=some xs):∃a vs,A3 (co= .ref a) (h.IsList a (List.toArray vs)) (aO ι h xs vs):=by
 refine wG λX' kX=> ?_
 cases o with
 | ref i =>
  unfold av at e;dsimp only at e
  cases hx:H[i]? with
  | none=>rw [hx] at e;cases e
  | some o =>
   rw [hx] at e
   cases o with
   | list ys =>
    cases e
    obtain ⟨a,ha,rfl⟩:=r
    obtain ⟨a1,n1,vs,g1,g2,g3⟩:=R.list hx
    obtain rfl:a=a1:=Option.some.inj (ha.symm.trans g1)
    exact kX ⟨a,vs,rfl,g2.isList,g3⟩
   | _=>cases e
 | scr =>
  cases e
  obtain rfl:co= .ref G.sa:=r
  exact kX ⟨_,_,rfl,C.scr.at λo e=>R.keep _ _ e,kL C.isInts⟩
 | _=>cases e
theorem ub {o:V} {co:Value} {xs:List V} {ι':List Addr} {h':Heap} (e:av o H=some xs) (r:aM ι h o co) (p:ι<+:ι'):aM ι' h' o co:=by
 cases o with
 | ref i=>obtain ⟨a,e1,e2⟩:=r;exact ⟨a,getElem?_prefix p e1,e2⟩
 | scr=>exact r
 | _=>cases e
theorem AW {o:V} {xs:List V} (e:av o H=some xs):(∃i,o= .ref i)\/o= .scr:=by
 cases o with
 | ref i=>exact .inl ⟨_,rfl⟩
 | scr=>exact .inr rfl
 | _=>cases e
theorem wT {value:Expr} {lower upper:Option Expr} {p:Pos} {l:Addr} {vs:List Value} {vl vu:Value} {lo hi:Option Int} {A:Around} {E:Value->Shared->Prop} {s:Shared} {Q:Value->Shared->Prop} {prog:Program} {w:World}
  (hl:s.heap.IsList l vs.toArray) (pl:IsPart vl lo) (pu:IsPart vu hi) (hsz:vs.length<=sizeLine)
  (h:Q (.ref (s.heap.objs.size+1)) { s with heap:=(s.heap.push { cls:= .type "slice",data:= .fields #[vl,vu,.none] }).push { cls:= .type "list",data:= .seq (slicePick vs.toArray lo hi none) } }) :
  wpAny (model prog w) A (subscriptTail value (.Slice lower upper none p) (.ref l) (.ref s.heap.objs.size)) Q E { s with heap:=s.heap.push { cls:= .type "slice",data:= .fields #[vl,vu,.none] } }:=by
 have hl':=hl.push { cls:= .type "slice",data:= .fields #[vl,vu,.none] }
 refine tail_any (ops:=[.ref s.heap.objs.size,.ref l]) (Heap.IsList.typeIs (s:={ s with heap:=s.heap.push { cls:= .type "slice",data:= .fields #[vl,vu,.none] } }) hl') slot_list_getitem.lookup ?_ rfl
 refine wpAny_getItem_list_slice hl' (Heap.IsSliceOf.new ..) pl pu .none (by simp) ?_ (by simpa using hsz)
 rw [Heap.size_push]
 exact h
theorem DK (C:bL G) {e u:Expr} {p pos:Pos} {m1 m2:Cm V} (h1:Ev hq k env e m1) (h2:Ev hq k env u m2) :
  Ev hq k env (.Subscript e (.Slice none (some u) none p) pos) (m1.b λo=>m2.b λv=>sr o v):=by
 intro A ι q s ha R
 refine (aU.b (h1 A ι q s ha R) λa q' ι' b s' _ P hv=>aU.b (T':=λv Q E s₁=>wpAny G.M A (subscriptTail e (.Slice none (some u) none p) b (.ref s₁.heap.objs.size)) Q E { s₁ with heap:=s₁.heap.push { cls:= .type "slice",data:= .fields #[.none,v,.none] } })
  (h2 A ι' q' s' ha P.rel) λa2 q2 ι2 b2 s2 _ P2 hv2=> ?_).imp λQ E x=>Subscript_ (wpAny_mono x (λo s₁ y=>wpAny_Slice (wpAny_pure (wpAny_mono y (λv s₂ z=>wpAny_pure z) λ_ _ z=>z))) λ_ _ y=>y)
 unfold sr
 cases e1:av a q2.H with
 | none=>trivial
 | some xs =>
 cases a2 with
 | int n =>
  dsimp only
  split
  ·rename_i hn
   refine bW λY9 y9=> ?_
   obtain ⟨t,rfl⟩:=hv2
   obtain ⟨l,vs,rfl,g1,g2⟩:=fO C P2.rel.st (P2.vrel P.rel hv) e1
   refine y9 ?_
   refine aU.alloc (tk:=s2.toks) P2.rel (a:=s2.heap.objs.size+1) (h':=(s2.heap.push { cls:= .type "slice",data:= .fields #[.none,.int n t,.none] }).push { cls:= .type "list",data:= .seq (vs.take n.toNat).toArray }) (λb o e=>aak _ (aak _ e)) (aaH (Nat.le_succ _)) ⟨vs.take n.toNat,⟨0,?_⟩,?_⟩ (gD P2.rel.st _) λQ E hQ=> ?_
   ·haveI:=aaM (s2.heap.push { cls:= .type "slice",data:= .fields #[.none,.int n t,.none] }) (o:={ cls:= .type "list",data:= .seq (vs.take n.toNat).toArray }) rfl
    rwa [Heap.size_push] at this
   ·exact (g2.take n.toNat).mono (aav _ _) (.of_stays λb o e=>aak _ (aak _ e))
   ·refine wT g1 .none (.int n t) (by rw [g2.length,sizeLine_eq];exact b9 0xb000f4240a0011 hn.2) ?_
    haveI:=slicePick_upto' vs.toArray n.toNat
    rw [aah hn.1] at this
    rw [this]
    exact hQ
  ·trivial
 | _=>trivial
theorem Hl (C:bL G) {e u:Expr} {p pos:Pos} {m1 m2:Cm V} (h1:Ev hq k env e m1) (h2:Ev hq k env u m2) :
  Ev hq k env (.Subscript e (.Slice (some u) none none p) pos) (m1.b λo=>m2.b λv=>yZ o v):=by
 intro A ι q s ha R
 refine (aU.b (h1 A ι q s ha R) λa q' ι' b s' _ P hv=>aU.b (T':=λv Q E s₁=>wpAny G.M A (subscriptTail e (.Slice (some u) none none p) b (.ref s₁.heap.objs.size)) Q E { s₁ with heap:=s₁.heap.push { cls:= .type "slice",data:= .fields #[v,.none,.none] } })
  (h2 A ι' q' s' ha P.rel) λa2 q2 ι2 b2 s2 _ P2 hv2=> ?_).imp λQ E x=>Subscript_ (wpAny_mono x (λo s₁ y=>wpAny_Slice (wpAny_mono y (λv s₂ z=>wpAny_pure (wpAny_pure z)) λ_ _ z=>z)) λ_ _ y=>y)
 unfold yZ
 cases e1:av a q2.H with
 | none=>trivial
 | some xs =>
 cases a2 with
 | int n =>
  dsimp only
  split
  ·rename_i hn
   refine bW λY9 y9=> ?_
   obtain ⟨t,rfl⟩:=hv2
   obtain ⟨l,vs,rfl,g1,g2⟩:=fO C P2.rel.st (P2.vrel P.rel hv) e1
   refine y9 ?_
   refine aU.alloc (tk:=s2.toks) P2.rel (a:=s2.heap.objs.size+1) (h':=(s2.heap.push { cls:= .type "slice",data:= .fields #[.int n t,.none,.none] }).push { cls:= .type "list",data:= .seq (vs.drop n.toNat).toArray }) (λb o e=>aak _ (aak _ e)) (aaH (Nat.le_succ _)) ⟨vs.drop n.toNat,⟨0,?_⟩,?_⟩ (gD P2.rel.st _) λQ E hQ=> ?_
   ·haveI:=aaM (s2.heap.push { cls:= .type "slice",data:= .fields #[.int n t,.none,.none] }) (o:={ cls:= .type "list",data:= .seq (vs.drop n.toNat).toArray }) rfl
    rwa [Heap.size_push] at this
   ·exact (g2.drop n.toNat).mono (aav _ _) (.of_stays λb o e=>aak _ (aak _ e))
   ·refine wT g1 (.int n t) .none (by rw [g2.length,sizeLine_eq];exact b9 0xb000f4240a0011 hn.2) ?_
    haveI:=slicePick_from' vs.toArray n.toNat
    rw [aah hn.1] at this
    rw [this]
    exact hQ
  ·trivial
 | _=>trivial
end
structure tG (A:Around) (ι:List Addr) (s:Shared) (ι':List Addr) (H':Hp) (s':Shared):Prop where
 pre:ι<+:ι'
 st:eQ ι' H' s'.heap
 fs:nY (A.frames.getD []) ι' s'.heap
 kp:Kp ι (kJ A) s.heap s'.heap
 new:∀a∈ι',a∈ι\/s.heap.get? a=none
 gens:s'.gens = #[]
 os:s'.os=G.os
inductive JB (fs:List Env) (fa:List Addr) (ι:List Addr) (h:Heap) (c:String) (ι':List Addr) (H':Hp) (h':Heap) (ev:Value) (e C:Addr) (B:Heap):Prop
 | mk (z0:ev= .ref e) (z1:G.xcl c=some C) (z2:yJ B fs e (.ref C) .none h') (z3:eQ ι' H' B) (z4:nY fs ι' h') (z5:∀a o,h.get? a=some o->a∉ι->a∉fa->B.get? a=some o)
structure o3 (A:Around) (ι:List Addr) (s:Shared) (c:String) (ι':List Addr) (H':Hp) (s':Shared) (ev:Value):Prop where
 pre:ι<+:ι'
 ex:∃e C B,JB (A.frames.getD []) (kJ A) ι s.heap c ι' H' s'.heap ev e C B
 size:AB s.heap s'.heap
 up:∀a o,s.heap.get? a=some o->a∉ι-> ∃sl,s'.heap.get? a=some { o with slots:=sl }
 new:∀a∈ι',a∈ι\/s.heap.get? a=none
 gens:s'.gens = #[]
 os:s'.os=G.os
def ck (hq:Bool) (k:Nat) (f:Addr) (F:Fc):Prop :=
 ∀A ι H s vs cvs,ROk hq k A->(∃fs,A.frames=some fs)->eQ ι H s.heap->nY (A.frames.getD []) ι s.heap->s.gens = #[]->s.os=G.os->sE A s.heap->aO ι s.heap vs cvs ->
  match F vs H with
  | .ok v H'=> ∀R:Result->Shared->Prop,(∀ι' cv s',tG A ι s ι' H' s'->aM ι' s'.heap v cv->R (.ok (.ret cv)) s')->codeAny G.M A (.call (.ref f) ⟨cvs,[]⟩) R s
  | .exc c H'=> ∀R:Result->Shared->Prop,(∀ι' ev s',o3 A ι s c ι' H' s' ev->R (.error ev) s')->codeAny G.M A (.call (.ref f) ⟨cvs,[]⟩) R s
  | .stuck=>True
section
variable {hq:Bool} {k:Nat} {env:Env} {A:Around} {ι ι':List Addr} {q:S} {s s':Shared} {H H':Hp} {h:Heap}
theorem ROk.mono {k':Nat} (x:ROk hq k A) (hk:k'<=k):ROk hq k' A:=⟨x.hd,by haveI:=x.depth;exact lh 0x320a003d2c0000320a103d2c0110032 hk this,aao (Nat.add_le_add_left (Nat.mul_le_mul_left 50 hk) _) x.units⟩
theorem dW (R:nY (A.frames.getD []) ι h) {a:Addr} (ha:a∈kJ A):∃o,h.get? a=some o/\ ∃es n,o.data= .dict es n:=by
 refine bW λY9 y9=> ?_
 obtain ⟨e,he,hf⟩:=List.mem_filterMap.mp ha
 obtain ⟨_,L,o,h1,h2,h3,_⟩:=R e he
 refine y9 ?_
 obtain rfl:L=a:=Option.some.inj (h1.symm.trans hf)
 exact ⟨o,h2,h3⟩
theorem jN.after (R:cL A env ι q s) {hv hl:Heap} (pre:ι<+:ι') (new:∀a∈ι',a∈ι\/s.heap.get? a=none)
  (up:∀a o,s.heap.get? a=some o->a∉ι-> ∃sl,hl.get? a=some { o with slots:=sl })
  (ex:∀a o,s.heap.get? a=some o->a∉ι->a∉kJ A->hv.get? a=some o):jN env q.l ι' hv hl:=by
 have im:oi s.heap hv:=λa o e hm=>⟨o.slots,ex a o e (λhi=>by
   obtain ⟨o',e',hm'⟩:=R.st.mut hi
   rw [e] at e';cases e';exact hm hm') λhf=>by
   obtain ⟨o',e',es,n,hd⟩:=dW R.fs hf
   rw [e] at e';cases e';exact hm (.inr (.inl ⟨es,n,hd⟩))⟩
 have cellEx:∀c o v,s.heap.get? c=some o->o.data= .cell v->c∈own env->hv.get? c=some o:=λc o v e hd ho=>ex c o e (R.fr.dis c ho) λhf=>by
   obtain ⟨o',e',es,n,hd'⟩:=dW R.fs hf
   rw [e] at e';cases e';rw [hd] at hd';cases hd'
 refine ⟨R.fr.kind,R.fr.glob,R.fr.blt,?_,?_,?_,R.fr.ndup,?_,R.fr.fresh⟩
 ·obtain ⟨m,⟨o,es,ep,ho,hd,r⟩,hm⟩:=R.fr.loc
  obtain ⟨sl,hs⟩:=up env.locals o ho (R.fr.dis _ (.head _))
  exact ⟨m,⟨_,es,ep,hs,hd,r⟩,λy v e e2=>let ⟨cv,a,b⟩:=hm y v e e2;⟨cv,a,b.mono pre im⟩⟩
 ·intro y v e e2
  obtain ⟨c,o,cv,h1,h2,h3,h4⟩:=R.fr.cel y v e e2
  exact ⟨c,o,cv,h1,cellEx c o _ h2 h3 (List.mem_cons_of_mem _ (aaf.mpr ⟨_,bC h1,rfl⟩)),h3,h4.mono pre im⟩
 ·intro p hp
  obtain ⟨o,ov,h1,h2⟩:=R.fr.cells p hp
  exact ⟨o,ov,cellEx p.2 o _ h1 h2 (List.mem_cons_of_mem _ (aaf.mpr ⟨p,hp,rfl⟩)),h2⟩
 ·intro a ha hi
  rcases new a hi with h1 | h1
  ·exact R.fr.dis a ha h1
  ·obtain ⟨o,e,_⟩:=R.fr.mut (λ_ _ e=>e) ha
   rw [h1] at e;cases e
theorem aY.ofC (R:cL A env ι q s) (c:tG A ι s ι' H' s'):aY A env ι s ι' ⟨q.l,H'⟩ s' where
 pre:=c.pre
 rel:=⟨c.st,jN.after R c.pre c.new c.kp.up c.kp.ex,c.fs,c.gens,c.os,R.hn.imm (R.imm' λa o e hW=>c.kp.up a o e λh=>hW (aau _ h))⟩
 kp:=⟨c.kp.size,λa o e hW=>c.kp.up a o e λh=>hW (aau _ h),λa o e hW hf=>c.kp.ex a o e (λh=>hW (aau _ h)) hf⟩
 new:=c.new
theorem dw.ofC {c:String} {ev:Value} (ha:j9 hq k A env) (R:cL A env ι q s) (x:o3 A ι s c ι' H' s' ev):dw A env ι s c ι' ⟨q.l,H'⟩ s' ev where
 pre:=x.pre
 ex:=by
  refine bW λY9 y9=> ?_
  obtain ⟨e,C,B,h1,h2,h3,h4,h5,h6⟩:=x.ex
  obtain ⟨fenv,rest,f1,f2,_⟩:=ha.fr
  haveI hm:fenv∈A.frames.getD []:=by rw [f1];exact .head _
  obtain ⟨_,L,o,g1,_⟩:=R.fs fenv hm
  refine y9 ?_
  exact ⟨e,C,B,L,h1,h2,by rw [<- f2];exact g1,.fly _ h3 (.inl rfl),h4,jN.after R x.pre x.new x.up h6,h5,λa o e' hW hf=>h6 a o e' (λh=>hW (aau _ h)) hf⟩
 size:=x.size
 up:=λa o e hW=>x.up a o e λh=>hW (aau _ h)
 new:=x.new
 gens:=x.gens
 os:=x.os
noncomputable def bD (F:Fc) (vs:List V):Cm V:=λq=>match F vs q.H with
 | .ok v H'=> .ok v ⟨q.l,H'⟩
 | .exc c H'=> .exc c ⟨q.l,H'⟩
 | .stuck=> .stuck
abbrev An (Q:Value->Shared->Prop) (E:Value->Shared->Prop):Result->Shared->Prop:=λr s'=>match r with | .ok (.ret v)=>Q v s' | .ok _=>False | .error e=>E e s'
theorem DN {f:Addr} {F:Fc} {k0:Nat} (hF:ck hq k0 f F) (hk:k0<=k) (ha:j9 hq k A env) (R:cL A env ι q s) {vs:List V} {cvs:List Value} (hv:aO ι s.heap vs cvs) :
  aU A env ι s (bD F vs q) (aM) (λQ E s=>codeAny G.M A (.call (.ref f) ⟨cvs,[]⟩) (An Q E) s):=by
 have hr:=hF A ι q.H s vs cvs (ha.toROk.mono hk) (let ⟨fenv,rest,h1,_⟩:=ha.fr;⟨_,h1⟩) R.st R.fs R.gens R.os R.hn hv
 unfold bD
 cases h:F vs q.H with
 | stuck=>trivial
 | ok v H'=>rw [h] at hr;exact λQ E hQ=>hr _ λι' cv s' c r=>hQ ι' cv s' (aY.ofC R c) r
 | exc c H'=>rw [h] at hr;exact λQ E hQ=>hr _ λι' ev s' x=>hQ ι' ev s' (dw.ofC ha R x)
theorem cV {M:Model} {A:Around} {E:Value->Shared->Prop} {s:Shared} {f:Value} {Q:Args->Shared->Prop}:∀ {args:List (Bool×Sem Value)},args.any (·.1)=false ->
  wpAny M A (spliced args) (λvs s'=>Q ⟨vs,[]⟩ s') E s->wpAny M A (evalArgs f true args []) Q E s
 | [],_,h=>by
  unfold evalArgs
  show wpAny M A (spliced [] >>= _) Q E s
  refine wpAny_bind (wpAny_mono h (λvs s' h'=> ?_) λ_ _ x=>x)
  refine wpAny_bind (wpAny_pure ?_)
  refine wpAny_holding ?_
  exact wpAny_bind (wpAny_pure (wpAny_bind (wpAny_pure (wpAny_pure h'))))
 | (false,x)::rest,_,h=>Calls.evalArgs_plain h
 | (true,x)::rest,hp,_=>by simp at hp
theorem bK (C:bL G) {x:String} {f:Addr} {F:Fc} {k0:Nat} {es:List Expr} {p pos:Pos} {m:Cm (List V)} (hF:ck hq k0 f F) (h1:Bv hq k env es m) (hx:env.kindOf (Str.ofString x)=some .globalImplicit)
  (hv:nsIn G.K mainGlobals (Str.ofString x)=some (some (.ref f))) (hfn:fnIn G.K f=true) (hd:(Str.ofString x==("__debug__" : Str))=false) (hk:k0<=k)
  (hp:(backTo pos (starEach es env)).any (·.1)=false) :
  Ev hq k env (.Call (.Name (Str.ofString x) p) es [] pos) (m.b λvs=>bD F vs):=by
 intro A ι q s ha R
 unfold fnIn at hfn
 split at hfn
 ·rename_i oc od fd sl hl
  refine (aU.b (T':=λvs Q E s₁=>s₁.heap.get? f=some ⟨oc,od,.func fd,sl⟩/\codeAny G.M A (.call (.ref f) ⟨vs,[]⟩) (An Q E) s₁) (h1 pos A ι q s ha R) λa q' ι' b s' _ P hv =>
   (DN hF hk ha P.rel hv).imp λQ E z=>⟨P.rel.st.keep _ _ (C.X _ _ hl),z⟩).imp λQ E y=> ?_
  show wpAny G.M A (do callWith pos (<- eval (.Name (Str.ofString x) p) env) [] (backTo pos (starEach es env)) []) Q E s
  refine wpAny_bind (jU C R hx hv hd ?_)
  exact Calls.callWith_function (cV hp (wpAny_mono y (λvs s₁ z=>⟨⟨z.1,rfl⟩,wpAny_call z.2⟩) λ_ _ z=>z))
 ·cases hfn
end
section
variable {hq:Bool} {k:Nat} {env:Env} {A:Around} {ι ι':List Addr} {q:S} {s s':Shared} {H H':Hp} {h:Heap}
theorem rH {M:Model} {A:Around} {E:Value->Shared->Prop} {s:Shared} {o:Expr} {name:Str} {apos pos:Pos} {args:List Expr} {Q:Value->Shared->Prop}
  (hbase:attributeBase o name env (eval o env)=eval o env) (hform:methodCallForm args.length (backTo pos (starEach args env)) []=true) (hline:(apos.endLine==pos.line)=true)
  (h:wpAny M A (eval o env) (λov s₁=>wpAny M A (getMethod ov name (do return (<- importBound o env).getD true)) (λfp s₂=>wpAny M A (callWith pos fp.1 fp.2 (backTo pos (starEach args env)) []) Q E s₂) E s₁) E s) :
  wpAny M A (eval (.Call (.Attribute o name apos) args [] pos) env) Q E s:=by
 rw [arm_eval_Call,hbase]
 refine wpAny_bind (wpAny_mono h (λov s₁ h₁=>wpAny_bind (wpAny_standAt ?_)) λ_ _ e=>e)
 haveI hform':methodCallForm (args.length+([]:List Keyword).length) (backTo pos (starEach args env)) (backToKw pos (keywordEach [] env))=true:=hform
 haveI hpos:methodCallPos true o env apos pos=pure pos:=by unfold methodCallPos;simp [hline]
 unfold methodCall
 rw [hform']
 show wpAny M A (holding [ov] (getMethod ov name _) >>= _) Q E s₁
 exact wpAny_bind (wpAny_holding (wpAny_mono h₁ (λfp s₂ h₂=>wpAny_bind (wpAny_of_eq hpos h₂)) λ_ _ e=>e))
noncomputable def cq (K:Frag) (C f:Addr) (name:Str):Bool:=plainGet K C name&&(findIn K (.ref C) name==some (some (.ref f)))&&isFn K (.ref f)&&fnIn K f
noncomputable def d5 (c0 f:String) (v:V):Cm Unit:=λq=>match v with
 | .inst c i=>if c=c0 then (match q.H[i]? with
  | some (.flds fs)=>(match fs.lookup f with | some _=> .stuck | none=> .ok () q)
  | _=> .stuck) else .stuck
 | _=> .stuck
theorem EF {c0 f:String} {v:V} {q:S}:d5 c0 f v q= .stuck\/(d5 c0 f v q= .ok () q/\ ∃i fs,v= .inst c0 i/\q.H[i]? = some (.flds fs)/\fs.lookup f=none):=by
 cases v with
 | inst c i =>
  unfold d5;dsimp only
  split
  ·rename_i hc
   subst hc
   cases e:q.H[i]? with
   | none=>exact .inl rfl
   | some o =>
   cases o with
   | flds fs =>
    dsimp only
    cases hn:fs.lookup f with
    | some _=>exact .inl rfl
    | none=>exact .inr ⟨rfl,i,fs,rfl,e,hn⟩
   | _=>exact .inl rfl
  ·exact .inl rfl
 | _=>exact .inl rfl
theorem ba (C:bL G) {c0 name:String} {C0 f:Addr} {F:Fc} {k0:Nat} {o:Expr} {es:List Expr} {apos pos:Pos} {m0:Cm V} {m:Cm (List V)} (hok:cq G.K C0 f (Str.ofString name)=true)
  (hF:ck hq k0 f F) (h0:Ev hq k env o m0) (h1:Bv hq k env es m) (hc:G.cls c0=some C0) (hk:k0<=k)
  (hbase:attributeBase o (Str.ofString name) env (eval o env)=eval o env) (hform:methodCallForm es.length (backTo pos (starEach es env)) []=true) (hline:(apos.endLine==pos.line)=true)
  (hp:(backTo pos (starEach es env)).any (·.1)=false) :
  Ev hq k env (.Call (.Attribute o (Str.ofString name) apos) es [] pos) (m0.b λv=>(d5 c0 name v).b λ_=>m.b λvs=>bD F (v::vs)):=by
 intro A ι q s ha R
 unfold cq at hok
 simp only [Bool.and_eq_true,beq_iff_eq] at hok
 refine bW λY9 y9=> ?_
 obtain ⟨⟨⟨k1,k2⟩,k3⟩,k4⟩:=hok
 refine y9 ?_
 unfold fnIn at k4
 split at k4
 ·rename_i oc od fd sl hl
  refine (aU.b (T':=λov Q E s₁=>wpAny G.M A (getMethod ov (Str.ofString name) (do return (<- importBound o env).getD true)) (λfp s₂=>wpAny G.M A (callWith pos fp.1 fp.2 (backTo pos (starEach es env)) []) Q E s₂) E s₁)
   (h0 A ι q s ha R) λv q' ι' b s' _ P hv=> ?_).imp λQ E y=>rH hbase hform hline y
  rcases EF (c0:=c0) (f:=name) (v:=v) (q:=q') with hst | ⟨hok,i,fs,rfl,e,hnone⟩
  ·rw [cK hst];trivial
  ·rw [fZ hok]
   refine bW λY9 y9=> ?_
   obtain ⟨a,x,C',ox,es',n,g1,g2,rfl,I,g3,g4,g5⟩:=xM P.rel.st hv e
   refine y9 ?_
   haveI hgl:=pL g5 name
   rw [hnone] at hgl
   obtain rfl:C'=C0:=Option.some.inj (g2.symm.trans hc)
   refine (aU.b (T':=λvs Q E s₁=>s₁.heap.get? f=some ⟨oc,od,.func fd,sl⟩/\codeAny G.M A (.call (.ref f) ⟨.ref x::vs,[]⟩) (An Q E) s₁) (h1 pos A ι' q' s' ha P.rel) λvs q2 ι2 b2 s2 _ P2 hv2=> ?_).imp λQ E y=> ?_
   ·exact (DN hF hk ha P2.rel (oY (P2.vrel P.rel hv) hv2)).imp λQ E z=>⟨P2.rel.st.keep _ _ (C.X _ _ hl),z⟩
   ·refine method_fn (C.X.keeps P.rel.st.keep) I (plainGet_of k1).1 (plainGet_of k1).2 k2 (beq_iff_eq.mp k3) (by show (lookIn _ (dictOf es' n)).map _=_;rw [lookIn_dict,hgl];rfl) ?_
    exact Calls.callWith_function (cV hp (wpAny_mono y (λvs s₁ z=>⟨⟨z.1,rfl⟩,wpAny_call z.2⟩) λ_ _ z=>z))
 ·cases k4
noncomputable def xD (k:Int) (es:List (Int×V)):List (Int×V):=es.filter λe=>e.1≠k
noncomputable def fV (o:V):Cm Bool:=λq=>match o with
 | .ref i=>(match q.H[i]? with | some (.list _)=> .ok true q | some (.dict _)=> .ok false q | _=> .stuck)
 | _=> .stuck
noncomputable def gZ (o v:V):Cm V:=λq=>match o with
 | .ref i=>(match q.H[i]? with
  | some (.list xs)=>if xs.length<1000000 then .ok .none { q with H:=q.H.set i (.list (xs++[v])) } else .stuck
  | _=> .stuck)
 | _=> .stuck
noncomputable def E4 (o v:V):Cm V:=λq=>match o,v with
 | .ref i,.int k=>(match q.H[i]? with
  | some (.list xs)=>if 0<=k/\k<xs.length/\xs.length<=1000000 then (match xs[k.toNat]? with | some x=> .ok x { q with H:=q.H.set i (.list (xs.eraseIdx k.toNat)) } | none=> .stuck) else .stuck
  | _=> .stuck)
 | _,_=> .stuck
noncomputable def rI (o v:V):Cm V:=λq=>match o,v with
 | .ref i,.int k=>(match q.H[i]? with
  | some (.dict es)=>if es.length<=1000000 then (match es.lookup k with | some x=> .ok x { q with H:=q.H.set i (.dict (xD k es)) } | none=> .stuck) else .stuck
  | _=> .stuck)
 | _,_=> .stuck
noncomputable def xL (o v:V):Cm V:=λq=>match o with
 | .ref i=>(match q.H[i]? with
  | some (.list xs)=>(match toD q.H 8 v,dt (toD q.H 8) xs with
   | some d,some ds=>if (SeqAt.shaped d=true/\SeqAt.shaped (.list ds)=true)/\ds.length<=1000000/\ds.findIdx (λy=>PyData.eqv y d)<ds.length then .ok (.int (ds.findIdx λy=>PyData.eqv y d)) q else .stuck
   | _,_=> .stuck)
  | _=> .stuck)
 | _=> .stuck
theorem zy {o:V} {q:S}:fV o q= .stuck\/(∃i xs,o= .ref i/\q.H[i]? = some (.list xs)/\fV o q= .ok true q)\/(∃i es,o= .ref i/\q.H[i]? = some (.dict es)/\fV o q= .ok false q):=by
 cases o with
 | ref i =>
  cases e:q.H[i]? with
  | none=>exact .inl (by unfold fV;dsimp only;rw [e])
  | some o =>
  cases o with
  | list xs=>exact .inr (.inl ⟨i,xs,rfl,e,by unfold fV;dsimp only;rw [e]⟩)
  | dict es=>exact .inr (.inr ⟨i,es,rfl,e,by unfold fV;dsimp only;rw [e]⟩)
  | flds _=>exact .inl (by unfold fV;dsimp only;rw [e])
 | _=>exact .inl rfl
theorem yY {k:Int}:∀ {es:List (Int×V)} {kvs:List (Int×Value)},jL ι h es kvs->jL ι h (xD k es) (without kvs k)
 | [],_,x=>by rw [show _=[] from x];rfl
 | (k',w)::es,_,z2=>by
  obtain ⟨cw,kvs',q,a,b⟩:=z2
  subst q
  have ih:=yY (k:=k) b
  unfold xD without at ih ⊢
  rw [List.filter_cons,List.filter_cons]
  dsimp only at a ⊢
  by_cases e:k'=k
  ·simp only [e,ne_eq,not_true,decide_false,Bool.false_eq_true,if_false];exact ih
  ·simp only [e,ne_eq,not_false_eq_true,decide_true,if_true];exact ⟨cw,_,rfl,a,ih⟩
theorem Eg (ha:∃hq k,j9 hq k A env) (R:cL A env ι q s) {v:V} {cv:Value} {xs:List V} {vs:List Value} {d:PyData} {ds:List PyData} (h1:aM ι s.heap v cv) (h2:aO ι s.heap xs vs)
  (e1:toD q.H 8 v=some d) (e2:dt (toD q.H 8) xs=some ds) (s1:SeqAt.shaped d=true) (s2:SeqAt.shaped (.list ds)=true) :
  (∀y,y∈vs.toArray->SeqAt.EqAt A.in1 s y cv (PyData.eqv (SeqAt.readOf s.heap y) d))/\vs.map (SeqAt.readOf s.heap)=ds:=by
 haveI hu:=j9.units_lt ha
 obtain ⟨as,r1⟩:=fR R.st h1 e1
 obtain ⟨bs,r2⟩:=gB (fR R.st) h2 e2
 have c2:PyData.canLayAll0 ds=true:=SeqAt.canLay_of_shaped s2
 exact ⟨SeqAt.items_eqAt (by simpa using r2) r1 c2 (SeqAt.canLay_of_shaped s1) (room_in_shaped s1 (cu 0x1000041a0c11000064a0c111 hu)),SeqAt.readsAll_map _ _ _ c2 r2⟩
theorem AL {α:Type} (p:α->Bool):∀(l:List α),l.findIdx p<l.length->(∃x,l[l.findIdx p]? = some x/\p x=true)/\ ∀m,m<l.findIdx p-> ∀y,l[m]? = some y->p y=false:=by
 intro l hl
 refine ⟨⟨l[l.findIdx p],by simp,List.findIdx_getElem⟩,λm hm y hy=> ?_⟩
 obtain ⟨h1,rfl⟩:=aaa.mp hy
 haveI:=List.not_of_lt_findIdx hm
 simpa using this
theorem ml (C:bL G) {o v:V} {co cv:Value} (ha:∃hq k,j9 hq k A env) (R:cL A env ι q s) (h1:aM ι s.heap o co) (h2:aM ι s.heap v cv) :
  aU A env ι s (gZ o v q) (aM) (mh A (call (.builtin "list.append") [co,cv])):=by
 cases o with
 | ref i =>
  obtain ⟨a,hi,rfl⟩:=h1
  unfold gZ;dsimp only
  cases e:q.H[i]? with
  | none=>trivial
  | some o =>
  cases o with
  | list xs =>
   dsimp only
   split
   ·rename_i hl
    refine bW λY9 y9=> ?_
    obtain ⟨a1,n1,vs,g1,g2,g3⟩:=R.st.list e
    refine y9 ?_
    obtain rfl:a=a1:=Option.some.inj (hi.symm.trans g1)
    refine aU.set (tk:=s.toks) R g1 (Heap.SameBut.update s.heap a (Obj.mapSeq λx=>x.push cv)) (λim=>⟨vs++[cv],?_,(g3.mono (aam _) im).append (oY (h2.mono (aam _) im) yD)⟩) (λim=>Hi) λQ E hQ=> ?_
    ·haveI:=g2.update λx=>x.push cv
     exact ⟨_,by simpa using this⟩
    ·exact call_meets F.slot_list_append ⟨_,g2,rfl⟩ F.entry_list_append (F.args_list_append_2 _ _) (list_append a vs.toArray n1 cv (by rw [aaR,g3.length,sizeLine_eq];exact b9 0xb000f4240a0111 hl)) ⟨g2,hQ⟩
   ·trivial
  | _=>trivial
 | _=>trivial
theorem IW (C:bL G) {o v:V} {co cv:Value} (ha:∃hq k,j9 hq k A env) (R:cL A env ι q s) (h1:aM ι s.heap o co) (h2:aM ι s.heap v cv) :
  aU A env ι s (E4 o v q) (aM) (mh A (call (.builtin "list.pop") [co,cv])):=by
 cases o with
 | ref i =>
  cases v with
  | int k =>
   refine bW λY9 y9=> ?_
   obtain ⟨a,hi,rfl⟩:=h1
   refine y9 ?_
   unfold E4;dsimp only
   cases e:q.H[i]? with
   | none=>trivial
   | some o =>
   cases o with
   | list xs =>
    dsimp only
    split
    ·rename_i hl
     cases hx:xs[k.toNat]? with
     | none=>trivial
     | some x =>
      refine bW λY9 y9=> ?_
      obtain ⟨a1,n1,vs,g1,g2,g3⟩:=R.st.list e
      obtain rfl:a=a1:=Option.some.inj (hi.symm.trans g1)
      obtain ⟨t,rfl⟩:=h2
      obtain ⟨cx,hcx,hrx⟩:=g3.get hx
      refine y9 ?_
      have hlen:=g3.length
      refine aU.set (tk:=s.toks) R g1 (Heap.SameBut.update s.heap a (Obj.mapSeq λxs=>xs.eraseIdxIfInBounds k.toNat)) (λim=>⟨vs.eraseIdx k.toNat,?_,vrels_erase (g3.mono (aam _) im) _⟩) (λim=>hrx.mono (aam _) im) λQ E hQ=> ?_
      ·haveI:=g2.update λxs=>xs.eraseIdxIfInBounds k.toNat
       exact ⟨_,by simpa [List.eraseIdxIfInBounds_toArray] using this⟩
      ·refine call_meets F.slot_list_pop ⟨_,g2,rfl⟩ F.entry_list_pop (F.args_list_pop_2 _ _) (MeetsSeq.list_pop_at a vs.toArray n1 k t k.toNat cx ?_ ?_ (by simpa using hcx) (by rw [aaR,hlen,sizeLine_eq];exact b9 0xb000f4240a0011 hl.2.2)) ⟨g2,hQ⟩
       ·simp [Builtin.List.listFitsIndex];exact JJ (hl.1) (ge 0xf42400a090f4240a0010f0912 hl.2.1 hl.2.2)
       ·unfold seqIndex?
        rw [aaR,hlen]
        have:¬(k<0):=bY 0x90d009811 hl.1
        simp only [this,if_false]
        have h2:0<=k/\k<(xs.length:Int):=⟨hl.1,hl.2.1⟩
        simp [h2]
    ·trivial
   | _=>trivial
  | _=>trivial
 | _=>trivial
where
 vrels_erase:∀ {ι:List Addr} {h:Heap} {vs:List V} {cvs:List Value},aO ι h vs cvs-> ∀(i:Nat),aO ι h (vs.eraseIdx i) (cvs.eraseIdx i)
  | _,_,[],_,x,i=>by rw [show _=[] from x];simp [aO]
  | _,_,_::_,_,⟨v,vs',q,a,b⟩,0=>by subst q;exact b
  | _,_,_::_,_,⟨v,vs',q,a,b⟩,i+1=>by subst q;exact ⟨_,_,rfl,a,vrels_erase b i⟩
theorem AF (C:bL G) {o v:V} {co cv:Value} (ha:∃hq k,j9 hq k A env) (R:cL A env ι q s) (h1:aM ι s.heap o co) (h2:aM ι s.heap v cv) :
  aU A env ι s (rI o v q) (aM) (mh A (call (.builtin "dict.pop") [co,cv])):=by
 cases o with
 | ref i =>
  cases v with
  | int k =>
   refine bW λY9 y9=> ?_
   obtain ⟨a,hi,rfl⟩:=h1
   refine y9 ?_
   unfold rI;dsimp only
   cases e:q.H[i]? with
   | none=>trivial
   | some o =>
   cases o with
   | dict es =>
    dsimp only
    split
    ·rename_i hl
     cases hx:es.lookup k with
     | none=>trivial
     | some x =>
      refine bW λY9 y9=> ?_
      obtain ⟨a1,kvs,g1,g2,g3⟩:=R.st.dict e
      obtain rfl:a=a1:=Option.some.inj (hi.symm.trans g1)
      obtain ⟨t,rfl⟩:=h2
      haveI hg:=hG g3 k
      rw [hx] at hg
      obtain ⟨cx,hcx,hrx⟩:=hg
      refine y9 ?_
      intro Q E hQ
      refine call_meetsIn F.slot_dict_pop g2.mapOf.typeIs F.entry_dict_pop (F.args_dict_pop_2 _ _) (meets_dict_pop_there (knd:=intKind G.prog G.w) a (intKind_is G.prog G.w k t) [] (.inl rfl) rfl) ⟨kvs,cx,g2,by rw [tN g3,sizeLine_eq];exact b9 0xb000f4240a0011 hl,hcx,λh' e1 e2=> ?_⟩
      have P:=aY.set (tk:=s.toks+1) (o':= .dict (xD k es)) R g1 e2 λim=>⟨_,e1,yY (g3.mono (aam _) im)⟩
      exact hQ ι cx _ P (hrx.mono (aam _) (R.imm P.kp))
    ·trivial
   | _=>trivial
  | _=>trivial
 | _=>trivial
theorem FU (C:bL G) {o v:V} {co cv:Value} (ha:∃hq k,j9 hq k A env) (R:cL A env ι q s) (h1:aM ι s.heap o co) (h2:aM ι s.heap v cv) :
  aU A env ι s (xL o v q) (aM) (mh A (call (.builtin "list.index") [co,cv])):=by
 cases o with
 | ref i =>
  obtain ⟨a,hi,rfl⟩:=h1
  unfold xL;dsimp only
  cases e:q.H[i]? with
  | none=>trivial
  | some o =>
  cases o with
  | list xs =>
   dsimp only
   cases e1:toD q.H 8 v with
   | none=>trivial
   | some d =>
   cases e2:dt (toD q.H 8) xs with
   | none=>trivial
   | some ds =>
    dsimp only
    split
    ·rename_i hc
     refine bW λY9 y9=> ?_
     obtain ⟨⟨s1,s2⟩,l1,l2⟩:=hc
     obtain ⟨a1,n1,vs,g1,g2,g3⟩:=R.st.list e
     refine y9 ?_
     obtain rfl:a=a1:=Option.some.inj (hi.symm.trans g1)
     refine bW λY9 y9=> ?_
     obtain ⟨k1,k2⟩:=Eg ha R h2 g3 e1 e2 s1 s2
     have hlen:vs.length=ds.length:=by rw [<- k2,aad]
     have hj:ds.findIdx (λy=>PyData.eqv y d)<vs.toArray.size:=by rw [aaR,hlen];exact l2
     obtain ⟨⟨x,hx,hpx⟩,hno⟩:=AL _ ds l2
     refine y9 ?_
     have key:∀m (hm:m<vs.length),ds[m]? = some (SeqAt.readOf s.heap vs[m]):=λm hm=>by rw [<- k2];simp [hm]
     refine aU.ret R (Aj _ _) λQ E hQ=>call_meets F.slot_list_index ⟨_,g2,rfl⟩ F.entry_list_index (F.args_list_index_2 _ _)
      (SeqAt.list_indexAt a vs.toArray n1 none #[] cv (λy=>PyData.eqv (SeqAt.readOf s.heap y) d) (ds.findIdx λy=>PyData.eqv y d) hj (aaX (Int.ofNat_lt.mpr l2) (aa8 (Int.ofNat_le.mpr l1) ∅)) ?_ λm hm hlt=> ?_) ⟨g2,k1,hQ⟩
     ·haveI:=key (ds.findIdx λy=>PyData.eqv y d) (by rw [hlen];exact l2)
      rw [hx] at this
      simp only [List.getElem_toArray];rw [<- Option.some.inj this];exact hpx
     ·haveI:=key m (by simpa using hm)
      exact hno m hlt _ this
    ·trivial
  | _=>trivial
 | _=>trivial
structure wm (name:String) (kd:Bool):Prop where
 slot:Slot (if kd then "list" else "dict") (Str.ofString name) ((if kd then "list." else "dict.")++name)
 ty:typeOf (.builtin ((if kd then "list." else "dict.")++name))=pure (.type "method_descriptor")
theorem jQ:wm "append" true:=⟨F.slot_list_append,F.type_list_append⟩
theorem HB:wm "pop" true:=⟨F.slot_list_pop,F.type_list_pop⟩
theorem DX:wm "index" true:=⟨F.slot_list_index,F.type_list_index⟩
theorem xx:wm "pop" false:=⟨F.slot_dict_pop,F.type_dict_pop⟩
theorem HI {name:String} {kd:Bool} (B:wm name kd) {o:V} {co:Value} (R:cL A env ι q s) (h1:aM ι s.heap o co) (hk:fV o q= .ok kd q) {pl:Sem Bool} {Q:Value×List Value->Shared->Prop} {E:Value->Shared->Prop}
  (h:Q (.builtin ((if kd then "list." else "dict.")++name),[co]) s):wpAny G.M A (getMethod co (Str.ofString name) pl) Q E s:=by
 rcases zy (o:=o) (q:=q) with hst | ⟨i,xs,rfl,e,hk'⟩ | ⟨i,es,rfl,e,hk'⟩
 ·rw [hst] at hk;cases hk
 ·rw [hk'] at hk;cases hk
  refine bW λY9 y9=> ?_
  obtain ⟨a1,n1,vs,g1,g2,g3⟩:=R.st.list e
  obtain ⟨a,hi,rfl⟩:=h1
  refine y9 ?_
  obtain rfl:a=a1:=Option.some.inj (hi.symm.trans g1)
  exact getMethod_builtin ⟨_,g2,rfl⟩ F.plainAttrs_list B.slot B.ty (λb e=>by cases e;exact ⟨_,g2,rfl⟩) h
 ·rw [hk'] at hk;cases hk
  refine bW λY9 y9=> ?_
  obtain ⟨a1,kvs,g1,g2,g3⟩:=R.st.dict e
  obtain ⟨a,hi,rfl⟩:=h1
  refine y9 ?_
  obtain rfl:a=a1:=Option.some.inj (hi.symm.trans g1)
  exact getMethod_builtin g2.mapOf.typeIs F.plainAttrs_dict B.slot B.ty g2.mapOf.noDict h
theorem oh (C:bL G) {name:String} (kd:Bool) {f:V->V->Cm V} (B:wm name kd)
  (hP:∀ {A:Around} {ι:List Addr} {q:S} {s:Shared} {o v:V} {co cv:Value},(∃hq k,j9 hq k A env)->cL A env ι q s->aM ι s.heap o co->aM ι s.heap v cv->aU A env ι s (f o v q) (aM) (mh A (call (.builtin ((if kd then "list." else "dict.")++name)) [co,cv])))
  {o e:Expr} {apos pos:Pos} {m0 m1:Cm V} (h0:Ev hq k env o m0) (h1:Ev hq k env e m1)
  (hbase:attributeBase o (Str.ofString name) env (eval o env)=eval o env) (hform:methodCallForm 1 (backTo pos (starEach [e] env)) []=true) (hline:(apos.endLine==pos.line)=true)
  (he:starEach [e] env=(false,eval e env)::starEach [] env) (hp:(backTo pos (starEach [e] env)).any (·.1)=false) :
  Ev hq k env (.Call (.Attribute o (Str.ofString name) apos) [e] [] pos) (m0.b λo=>(fV o).b λkd'=>if kd'=kd then m1.b λv=>f o v else .stk):=by
 intro A ι q s ha R
 refine (aU.b (T':=λov Q E s₁=>wpAny G.M A (getMethod ov (Str.ofString name) (do return (<- importBound o env).getD true)) (λfp s₂=>wpAny G.M A (callWith pos fp.1 fp.2 (backTo pos (starEach [e] env)) []) Q E s₂) E s₁)
   (h0 A ι q s ha R) λv q' ι' b s' _ P hv=> ?_).imp λQ E y=>rH hbase hform hline y
 have iG:fV v q'= .ok kd q'->aU A env ι' s' ((m1.b λw=>f v w) q') (aM) (λQ E s₁=>wpAny G.M A (getMethod b (Str.ofString name) (do return (<- importBound o env).getD true)) (λfp s₂=>wpAny G.M A (callWith pos fp.1 fp.2 (backTo pos (starEach [e] env)) []) Q E s₂) E s₁):=by
  intro hk
  refine (aU.b (T':=λw Q E s₁=>wpAny G.M A (call (.builtin ((if kd then "list." else "dict.")++name)) [b,w]) Q E s₁) (h1 A ι' q' s' ha P.rel) λw q2 ι2 b2 s2 _ P2 hv2=>hP ⟨_,_,ha⟩ P2.rel (P2.vrel P.rel hv) hv2).imp λQ E y=> ?_
  refine HI B P.rel hv hk (Calls.callWith_builtin hp (cV hp (wpAny_items_cons (wpAny_mono y (λw s₁ z=>wpAny_items_nil z) λ_ _ z=>z) he)))
 rcases zy (o:=v) (q:=q') with hst | ⟨i,xs,rfl,e',hk'⟩ | ⟨i,es,rfl,e',hk'⟩
 ·rw [cK hst];trivial
 ·rw [fZ hk']
  by_cases hb:true=kd
  ·rw [if_pos hb];exact iG (hb▸hk')
  ·rw [if_neg hb];trivial
 ·rw [fZ hk']
  by_cases hb:false=kd
  ·rw [if_pos hb];exact iG (hb▸hk')
  ·rw [if_neg hb];trivial
end
section
variable {hq:Bool} {k:Nat} {env:Env} {A:Around} {ι ι':List Addr} {q:S} {s s':Shared} {H H':Hp} {h:Heap}
def te (bv:Value):Prop:= ∀(M:Model) (A:Around) (pos:Pos) (args:List (Bool×Sem Value)) (Q:Value->Shared->Prop) (E:Value->Shared->Prop) (s:Shared),args.any (·.1)=false ->
 wpAny M A (evalArgs bv true args []) (λa s₁=>wpAny M A (call bv ([]++a.pos) a.kw) Q E s₁) E s->wpAny M A (callWith pos bv [] args []) Q E s
theorem gO (id:String):te (.builtin id):=λ_ _ _ _ _ _ _ hp h=>Calls.callWith_builtin hp h
theorem kl (T:String):te (.type T):=λ_ _ _ _ _ _ _ hp h=>callWith_excType hp h
structure IR (hq:Bool) (k:Nat) (env:Env) (bv:Value) (f:List V->Cm V):Prop where
 c:te bv
 f:∀A ι q s vs cvs,j9 hq k A env->cL A env ι q s->aO ι s.heap vs cvs->aU A env ι s (f vs q) (aM) (mh A (call bv cvs))
theorem cM (C:bL G) {x:String} {bv:Value} {es:List Expr} {p pos:Pos} {m:Cm (List V)} {f:List V->Cm V} (h1:Bv hq k env es m) (hf:IR hq k env bv f) (hx:env.kindOf (Str.ofString x)=some .globalImplicit) (hv:nsIn G.K mainGlobals (Str.ofString x)=some none)
  (hb:bootBuiltins (Str.ofString x)=some bv) (hn:Str.ofString x ≠ "__name__") (hd:(Str.ofString x==("__debug__" : Str))=false) (hp:(backTo pos (starEach es env)).any (·.1)=false) :
  Ev hq k env (.Call (.Name (Str.ofString x) p) es [] pos) (m.b λvs=>f vs):=by
 intro A ι q s ha R
 refine (aU.b (T':=λvs Q E s₁=>wpAny G.M A (call bv vs) Q E s₁) (h1 pos A ι q s ha R) λa q' ι' b s' _ P hv=>hf.f A ι' q' s' a b ha P.rel hv).imp λQ E y=> ?_
 show wpAny G.M A (do callWith pos (<- eval (.Name (Str.ofString x) p) env) [] (backTo pos (starEach es env)) []) Q E s
 refine wpAny_bind (mw C R hx hv hb hn hd ?_)
 exact hf.c _ _ _ _ _ _ _ hp (cV hp (wpAny_mono y (λvs s₁ z=>z) λ_ _ z=>z))
noncomputable def dY:List V->Cm V
 | [.ref i]=>λq=>(match q.H[i]? with
  | some (.list xs)=>if xs.length<1000000 then .ok (.int xs.length) q else .stuck
  | _=> .stuck)
 | [.tup xs]=>if xs.length<1000000 then .p (.int xs.length) else .stk
 | [.scr]=> .p (.int sn.length)
 | _=> .stk
theorem IV (C:bL G) (R:cL A env ι q s) {vs:List V} {cvs:List Value} (hv:aO ι s.heap vs cvs):aU A env ι s (dY vs q) (aM) (mh A (call (.builtin "len") cvs)):=by
 cases vs with
 | nil=>trivial
 | cons o os =>
 cases os with
 | cons _ _=>cases o<;>trivial
 | nil =>
 obtain ⟨cv,_,rfl,h1,h2⟩:=hv;rw [show _=[] from h2]
 cases o with
 | ref i =>
  obtain ⟨a,hi,rfl⟩:=h1
  unfold dY;dsimp only
  cases e:q.H[i]? with
  | none=>trivial
  | some o =>
   cases o with
   | list xs =>
    dsimp only
    split
    ·rename_i hl
     obtain ⟨a1,n1,vs,g1,g2,g3⟩:=R.st.list e
     obtain rfl:a=a1:=Option.some.inj (hi.symm.trans g1)
     have:((vs.toArray.size:Nat):Int)=(xs.length:Int):=by rw [aaR,g3.length]
     exact aU.ret R (Aj _ _) λQ E hQ=>Calls.call_len_list g2.isList (by rw [this];exact JS (b9 0xf42400a010f4240a0111 hl)) (by rw [this];exact hQ)
    ·trivial
   | _=>trivial
 | tup xs =>
  obtain ⟨a,ws,rfl,ht,hw⟩:=h1
  unfold dY;dsimp only
  split
  ·rename_i hl
   have:((ws.toArray.size:Nat):Int)=(xs.length:Int):=by rw [aaR,hw.length]
   exact aU.ret R (Aj _ _) λQ E hQ=>len_tuple ht (by rw [this];exact JS (b9 0xf42400a010f4240a0111 hl)) (by rw [this];exact hQ)
  ·trivial
 | scr =>
  rw [show cv= .ref G.sa from h1]
  haveI hl:s.heap.IsList G.sa G.sv.toArray:=C.scr.at λo e=>R.st.keep _ _ e
  have:((G.sv.toArray.size:Nat):Int)=(sn.length:Int):=by rw [aaR,IntsAre.length C.isInts]
  haveI hs:sn.length<=63:=C.short
  exact aU.ret R (Aj _ _) λQ E hQ=>Calls.call_len_list hl (by rw [this];exact JS (b9 0xf42400a0100003fa0011 hs)) (by rw [this];exact hQ)
 | _=>trivial
noncomputable def ii:List V->Cm V
 | [o]=>λq=>(match av o q.H with
  | some xs=>if xs.length<=1000000 then .ok (.ref q.H.length) { q with H:=q.H++[.list xs] } else .stuck
  | none=> .stuck)
 | _=> .stk
theorem DP (C:bL G) (R:cL A env ι q s) {vs:List V} {cvs:List Value} (hv:aO ι s.heap vs cvs):aU A env ι s (ii vs q) (aM) (mh A (call (.type "list") cvs)):=by
 cases vs with
 | nil=>trivial
 | cons o os =>
 cases os with
 | cons _ _=>trivial
 | nil =>
  obtain ⟨cv,_,rfl,h1,h2⟩:=hv;rw [show _=[] from h2]
  unfold ii;dsimp only
  cases e:av o q.H with
  | none=>trivial
  | some xs =>
   dsimp only
   split
   ·rename_i hl
    obtain ⟨l,vs,rfl,g1,g2⟩:=fO C R.st h1 e
    obtain ⟨o,ho,hc,n,hd⟩:=g1
    intro Q E hQ
    refine call_list_seq l (.inl rfl) ho hc hd (λh' c' hk hD=> ?_) (by rw [aaR,g2.length,sizeLine_eq];exact b9 0xb000f4240a0011 hl)
    exact hQ _ _ _ (aY.alloc (tk:=s.toks) R hk (aaH (aaK _)) ⟨vs,⟨c',hD⟩,g2.mono (aav _ _) (.of_stays hk)⟩) (gD R.st _)
   ·trivial
noncomputable def yB (H:Hp):V->Option String
 | .none=>some "NoneType"
 | .bool _=>some "bool"
 | .int _=>some "int"
 | .str _=>some "str"
 | .tup _=>some "tuple"
 | .scr=>some "list"
 | .ref i=>(match H[i]? with | some (.list _)=>some "list" | some (.dict _)=>some "dict" | _=>none)
 | _=>none
noncomputable def pM (T:String) (v:V):Cm V:=λq=>match yB q.H v with
 | some t=> .ok (.bool (t==T||(t == "bool" && T == "int"))) q
 | none=> .stuck
theorem HU (C:bL G) (R:eQ ι H h) {v:V} {cv:Value} {t:String} (r:aM ι h v cv) (e:yB H v=some t):∃P:Heap->Prop,A4 (KitX G.K cv (.type t) P) (P h) (cv≠ .builtin "__main__.__loader__#opaque") (t = "NoneType" \/ t = "bool" \/ t = "int" \/ t = "str" \/ t = "tuple" \/ t = "list" \/ t = "dict"):=by
 refine wG λX' kX=> ?_
 have nb:∀ {r:Addr},Value.ref r≠ .builtin "__main__.__loader__#opaque" := λq=>by cases q
 cases v with
 | none=>cases e;obtain rfl:cv= .none:=r;exact kX ⟨_,kitx_none,trivial,(by intro q;cases q),.inl rfl⟩
 | bool b=>cases e;obtain rfl:cv= .bool _:=r;exact kX ⟨_,kitx_bool,trivial,(by intro q;cases q),.inr (.inl rfl)⟩
 | int i=>cases e;obtain ⟨t,rfl⟩:=r;exact kX ⟨_,kitx_int,trivial,(by intro q;cases q),.inr (.inr (.inl rfl))⟩
 | str x=>cases e;obtain ⟨t,rfl⟩:=r;exact kX ⟨_,kitx_str,trivial,(by intro q;cases q),.inr (.inr (.inr (.inl rfl)))⟩
 | tup xs=>cases e;obtain ⟨a,vs,rfl,⟨o,ho,hc,_⟩,_⟩:=r;exact kX ⟨_,kitx_tuple,⟨o,ho,hc⟩,nb,.inr (.inr (.inr (.inr (.inl rfl))))⟩
 | scr =>
  cases e
  obtain ⟨o,ho,hc,_⟩:=C.scr
  obtain rfl:cv= .ref G.sa:=r
  exact kX ⟨_,kitx_list,⟨o,R.keep _ _ ho,hc⟩,nb,.inr (.inr (.inr (.inr (.inr (.inl rfl)))))⟩
 | ref i =>
  unfold yB at e;dsimp only at e
  cases hx:H[i]? with
  | none=>rw [hx] at e;cases e
  | some o =>
  rw [hx] at e
  obtain ⟨a,hi,rfl⟩:=r
  cases o with
  | list xs =>
   cases e
   obtain ⟨a1,n1,vs,g1,g2,g3⟩:=R.list hx
   obtain rfl:a=a1:=Option.some.inj (hi.symm.trans g1)
   exact kX ⟨_,kitx_list,⟨_,g2,rfl⟩,nb,.inr (.inr (.inr (.inr (.inr (.inl rfl)))))⟩
  | dict es =>
   cases e
   obtain ⟨a1,kvs,g1,⟨o,es,ep,ho,hc,_⟩,g3⟩:=R.dict hx
   obtain rfl:a=a1:=Option.some.inj (hi.symm.trans g1)
   exact kX ⟨_,kitx_dict,⟨_,ho,hc.1⟩,nb,.inr (.inr (.inr (.inr (.inr (.inr rfl)))))⟩
  | _=>cases e
 | _=>cases e
noncomputable def ph (K:Frag) (T:String):Bool:=(["NoneType", "bool", "int", "str", "tuple", "list", "dict"]).all λt=>kitOne K (.type t) (.type T)==some (t==T||(t == "bool" && T == "int"))
theorem IU (C:bL G) {T:String} (hT:ph G.K T=true) {v:V} {cv:Value} (R:cL A env ι q s) (hv:aM ι s.heap v cv):aU A env ι s (pM T v q) (aM) (mh A (call (.builtin "isinstance") [cv,.type T])):=by
 unfold pM
 cases e:yB q.H v with
 | none=>trivial
 | some t =>
  obtain ⟨P,Z,p,hne,ht⟩:=HU C R.st hv e
  haveI hk:kitOne G.K (.type t) (.type T)=some (t==T||(t == "bool" && T == "int")):=by
   unfold ph at hT
   rw [List.all_eq_true] at hT
   exact beq_iff_eq.mp (hT t (by rcases ht with rfl | rfl | rfl | rfl | rfl | rfl | rfl<;>decide))
  exact λQ E hQ=>kia_one Z (C.X.keeps R.st.keep) p hk hne λtk=>hQ ι _ _ (aY.toks R tk) (xf _)
theorem tH (C:bL G) {T:String} (hT:ph G.K T=true) {e:Expr} {p p2 pos:Pos} {m:Cm V} (hx:env.kindOf (Str.ofString "isinstance")=some .globalImplicit) (hv:nsIn G.K mainGlobals (Str.ofString "isinstance")=some none)
  (hx2:env.kindOf (Str.ofString T)=some .globalImplicit) (hv2:nsIn G.K mainGlobals (Str.ofString T)=some none) (hb2:bootBuiltins (Str.ofString T)=some (.type T)) (hn2:Str.ofString T ≠ "__name__")
  (hd2:(Str.ofString T==("__debug__" : Str))=false) (h1:Ev hq k env e m) (he:starEach [e,.Name (Str.ofString T) p2] env=(false,eval e env)::starEach [.Name (Str.ofString T) p2] env)
  (hp:(backTo pos (starEach [e,.Name (Str.ofString T) p2] env)).any (·.1)=false) :
  Ev hq k env (.Call (.Name (Str.ofString "isinstance") p) [e,.Name (Str.ofString T) p2] [] pos) (m.b λv=>pM T v):=by
 intro A ι q s ha R
 refine (aU.b (T':=λv Q E s₁=>wpAny G.M A (eval (.Name (Str.ofString T) p2) env) (λw s₂=>wpAny G.M A (call (.builtin "isinstance") [v,w]) Q E s₂) E s₁) (h1 A ι q s ha R) λa q' ι' b s' _ P hv' =>
  (IU C hT P.rel hv').imp λQ E z=>mw C P.rel hx2 hv2 hb2 hn2 hd2 z).imp λQ E y=> ?_
 show wpAny G.M A (do callWith pos (<- eval (.Name (Str.ofString "isinstance") p) env) [] (backTo pos (starEach [e,.Name (Str.ofString T) p2] env)) []) Q E s
 refine wpAny_bind (mw C R hx hv (v:= .builtin "isinstance") ∅ ∅ ∅ ?_)
 refine Calls.callWith_builtin hp (cV hp (wpAny_items_cons (wpAny_mono y (λv s₁ z=>wpAny_items_cons (wpAny_mono z (λw s₂ u=>wpAny_items_nil u) λ_ _ u=>u)) λ_ _ z=>z) he))
theorem iw (C:bL G):IR hq k env (.builtin "len") (dY):=⟨gO _,λ_ _ _ _ _ _ _ R hv=>IV C R hv⟩
theorem AA (C:bL G):IR hq k env (.type "list") (ii):=⟨kl _,λ_ _ _ _ _ _ _ R hv=>DP C R hv⟩
end
section
variable {hq:Bool} {k:Nat} {env:Env} {A:Around} {ι ι':List Addr} {q q':S} {s s':Shared} {H H':Hp} {h:Heap}
theorem xV {x:Value} {env env':Env} (e:env.frame=env'.frame):noteFrame x env=noteFrame x env':=by
 unfold noteFrame PySem.frameOf;rw [e]
theorem nY.slots {fs:List Env} {h h':Heap} (x:nY fs ι h) (k:h.UpToSlots h'):nY fs ι h':=λenv he=>by
 refine bW λY9 y9=> ?_
 obtain ⟨a,L,o,b,c,⟨es,n,d⟩,f⟩:=x env he
 obtain ⟨sl,hs⟩:=k L o c λvs q=>by rw [d] at q;cases q
 refine y9 ?_
 exact ⟨a,L,_,b,hs,⟨es,n,d⟩,f⟩
theorem jN.slots {l:bp} {hv hl hl':Heap} (x:jN env l ι hv hl) (k:hl.UpToSlots hl'):jN env l ι hv hl' :=
 ⟨x.kind,x.glob,x.blt,let ⟨m,hn,hm⟩:=x.loc;⟨m,k.ns hn,hm⟩,x.cel,x.cells,x.ndup,x.dis,x.fresh⟩
theorem dw.at {c:String} {ev:Value} {e C L:Addr} {B:Heap} {h'':Heap} (x:dw A env ι s c ι' q' s' ev) (h1:ev= .ref e) (h2:G.xcl c=some C) (h3:env.frame=some L)
  (fl:xm B (A.frames.getD []) L e (.ref C) h'') (h5:eQ ι' q'.H B) (h6:jN env q'.l ι' B s'.heap) (h7:nY (A.frames.getD []) ι' s'.heap)
  (h8:∀a o,s.heap.get? a=some o->a∉own env++ι->a∉kJ A->B.get? a=some o) (up:s'.heap.UpToSlots h''):dw A env ι s c ι' q' { s' with heap:=h'' } ev:=by
 have fs:=h7.slots up
 have fr:=h6.slots up
 refine ⟨x.pre,⟨e,C,B,L,h1,h2,h3,fl,h5,fr,fs,h8⟩,?_,?_,x.new,x.gens,x.os⟩
 ·intro a o ea
  by_cases h1:a∈own env
  ·obtain ⟨o',e',_⟩:=fr.mut fl.keep h1;exact ⟨o',e'⟩
  ·by_cases h2:a∈ι
   ·refine bW λY9 y9=> ?_
    obtain ⟨i,hi⟩:=List.mem_iff_getElem?.mp h2
    have hi':=getElem?_prefix x.pre hi
    obtain ⟨oa,hoa⟩:∃oa,q'.H[i]? = some oa:=⟨_,aal (h5.len▸(aaa.mp hi').1)⟩
    obtain ⟨o',e'⟩:=(h5.obj i a oa hi' hoa).there
    refine y9 ?_
    exact ⟨o',fl.keep _ _ e'⟩
   ·by_cases h3:a∈kJ A
    ·obtain ⟨o',e',_⟩:=dW fs h3;exact ⟨o',e'⟩
    ·exact ⟨o,fl.keep _ _ (h8 a o ea (λhm=>(aap.mp hm).elim h1 h2) h3)⟩
 ·intro a o ea hW
  by_cases h3:a∈kJ A
  ·refine bW λY9 y9=> ?_
   obtain ⟨sl,e1⟩:=x.up a o ea hW
   obtain ⟨o',e',es,n,d⟩:=dW h7 h3
   rw [e1] at e';cases e'
   obtain ⟨sl2,e2⟩:=up a _ e1 λvs q=>by rw [d] at q;cases q
   refine y9 ?_
   exact ⟨sl2,e2⟩
  ·exact ⟨o.slots,fl.keep _ _ (h8 a o ea hW h3)⟩
def JF (env:Env) (e:Addr) (h:Heap):Prop:= ∃L B fs C,env.frame=some L/\yJ B fs e C (rawInt L) h
theorem dw.noted {c:String} {ev:Value} {Q:Unit->Shared->Prop} {E:Value->Shared->Prop} (ha:j9 hq k A env) (x:dw A env ι s c ι' q' s' ev)
  (hQ:∀e C B L s'',ev= .ref e->env.frame=some L->G.xcl c=some C->yJ B (A.frames.getD []) e (.ref C) (rawInt L) s''.heap->eQ ι' q'.H B->jN env q'.l ι' B s''.heap->nY (A.frames.getD []) ι' s''.heap ->
   (∀a o,s.heap.get? a=some o->a∉own env++ι->a∉kJ A->B.get? a=some o)->dw A env ι s c ι' q' s'' ev->Q () s''):wpAny G.M A (noteFrame ev env) Q E s':=by
 refine bW λY9 y9=> ?_
 obtain ⟨e,C,B,L,rfl,h2,h3,fl,h5,h6,h7,h8⟩:=x.ex
 obtain ⟨fenv,rest,f1,f2,_⟩:=ha.fr
 refine y9 ?_
 have hfs:A.frames.getD []=fenv::rest:=by rw [f1];rfl
 have iG:∀h',yJ B (fenv::rest) e (.ref C) (rawInt L) h'->s'.heap.UpToSlots h'->Q () { s' with heap:=h' }:=λh' y u=>by
  rw [<- hfs] at y
  exact hQ e C B L _ rfl h3 h2 y h5 (h6.slots u) (h7.slots u) h8 (x.at rfl h2 h3 (.fly _ y (.inr rfl)) h5 h6 h7 h8 u)
 rw [hfs] at fl
 rw [xV f2.symm]
 cases fl with
 | made k n f oe vs a0 he hc hd h0 h1 h2=>exact wB f1 f (f2.trans h3) he k n hd h0 h1 h2 λh' y u=>iG h' (hc▸y) u
 | fly fl y hfl=>exact zh f1 (f2.trans h3) y hfl iG
theorem DZ {e:Addr} {E:Value->Shared->Prop} (hh:JF env e s.heap) (hE:E (.ref e) s):cameBackBy G.M A env E (.ref e) s:=by
 refine bW λY9 y9=> ?_
 obtain ⟨L,B,fs,C,h0,y⟩:=hh
 refine y9 ?_
 cases y with
 | mk k n f oe vs a0 T oT ts h1 hc h2 _ _ h3 nT Te h4 h5 h6 =>
 show wpAny _ _ _ _ _ _
 refine wpAny_bind (wpAny_field h1 h2 h3 ?_)
 rw [if_neg (show ¬((Value.ref T==Value.none)=true) from by simp)]
 haveI step:wpAny G.M A (setFlight (.ref e) env.frame) (λ_ s''=>E (.ref e) s'') E s:=by
  unfold setFlight
  refine wpAny_bind (wpAny_field h1 h2 h3 ?_)
  rw [if_pos (show (Value.ref T != Value.none)=true from by simp),h0]
  refine wpAny_setField h4 h5 (Array.getElem?_eq_some_iff.mp h6).1 ?_
  show E (.ref e) { s with heap:=s.heap.update T (Obj.mapFields (·.setIfInBounds 3 (rawInt L))) }
  rw [Heap.update_setField_same s.heap T oT ts 3 (rawInt L) h4 h5 h6]
  exact hE
 first
  | exact wpAny_bind (wpAny_pure step)
  | exact step
theorem dw.passes {c:String} {ev:Value} {E:Value->Shared->Prop} (ha:j9 hq k A env) (x:dw A env ι s c ι' q' s' ev) (hE:∀s'',dw A env ι s c ι' q' s'' ev->E ev s'') :
  notedBy G.M A env (cameBackBy G.M A env E) ev s' :=
 dw.noted ha x λe C B L s'' he hf _ y _ _ _ _ z=>by subst he;exact DZ ⟨L,B,_,_,hf,y⟩ (hE s'' z)
end
structure It where
 xs:List V
 g:Hp->Prop
structure IK (A:Around) (target:Expr) (I:Addr) (priv:List Addr) (ι0:List Addr) (it:It) (St:Nat->Heap->Prop):Prop where
 mu:∀i h,St i h-> ∀b∈priv,∃o,h.get? b=some o/\DE o
 frame:∀i h h',St i h->(∀b∈priv,∀o,h.get? b=some o->h'.get? b=some o)->St i h'
 item:∀i x (s:Shared) ι H (Q:Value->Shared->Prop) E,it.xs[i]? = some x->ι0<+:ι->(∀b∈priv,b∉ι)->eQ ι H s.heap->it.g H->St i s.heap ->
  (∀v h' tk,(∀b o,b∉priv->s.heap.get? b=some o->h'.get? b=some o)->aM ι h' x v->St (i+1) h'->Q v { s with heap:=h',toks:=tk }) ->
  wpAny G.M A (pyNext (.ref I)) (λr s₁=>match r with | none=>False | some v=>wpAny G.M A (letOwnedTupleGo target (.ref I) v) (λ_ s₂=>Q v s₂) E s₁) E s
 done:∀(s:Shared) ι H (Q:Shared->Prop) E,ι0<+:ι->(∀b∈priv,b∉ι)->eQ ι H s.heap->it.g H->St it.xs.length s.heap->sE A s.heap ->
  (∀h' tk,(∀b o,b∉priv->s.heap.get? b=some o->h'.get? b=some o)->Q { s with heap:=h',toks:=tk }) ->
  wpAny G.M A (pyNext (.ref I)) (λr s₁=>match r with | none=>Q s₁ | some v=>False) E s
 self:∀i (s:Shared) (Q:Value->Shared->Prop) (E:Value->Shared->Prop),St i s.heap->Q (.ref I) s->wpAny G.M A (pyIter (.ref I)) Q E s
def yL (A:Around) (target:Expr) (h0:Heap) (ι:List Addr) (h:Heap) (it:It) (cv:Value):Prop :=
 ∃I priv St,cv= .ref I/\St 0 h/\(∀b∈priv,h0.get? b=none/\b∉ι)/\(∀H,eQ ι H h->True)/\IK A target I priv ι it St
def Hm (hq:Bool) (k:Nat) (env:Env) (target iter:Expr) (m:Cm It):Prop :=
 ∀A ι q s,j9 hq k A env->cL A env ι q s->aU A env ι s (m q) (λι' h it cv=>yL A target s.heap ι' h it cv/\ ∀q',m q= .ok it q'->it.g q'.H)
  (λQ E s=>wpAny G.M A (eval iter env) (λx s₁=>wpAny G.M A (pyIter x) Q E s₁) E s)
open Classical in
noncomputable def Ai (g:Hp->Prop) (rest:Cm Fl):Fl->Cm Fl
 | .next=>λq=>if g q.H then rest q else .stuck
 | .ret v=> .p (.ret v)
noncomputable def df (g:Hp->Prop) (bd:V->Cm Unit) (body:Cm Fl):List V->Cm Fl
 | []=> .p .next
 | v::r=>(bd v).b λ_=>body.b (Ai g (df g bd body r))
def tF (hq:Bool) (k:Nat) (env:Env) (target:Expr) (bd:V->Cm Unit):Prop :=
 ∀A ι q s v cv,j9 hq k A env->cL A env ι q s->aM ι s.heap v cv->aU A env ι s (bd v q) (λ_ _ _ _=>True) (mh A (assign target env cv))
section
variable {hq:Bool} {k:Nat} {env:Env} {A:Around} {ι ι':List Addr} {q q':S} {s s':Shared} {H H':Hp} {h:Heap}
theorem aU.of {α β:Type} {r:sG S α} {REL:List Addr->Heap->α->β->Prop} {T:PT β}
  (h:∀Q E,Fin A env ι s r REL Q E->T Q E s):aU A env ι s r REL T:=by
 cases r with
 | ok a q'=>exact λQ E x=>h Q E x
 | exc c q'=>exact λQ E x=>h Q E x
 | stuck=>trivial
theorem cL.off {priv:List Addr} {h':Heap} {tk:Nat} (R:cL A env ι q s) (hi:∀b∈priv,b∉ι/\b∉own env/\b∉kJ A/\G.hB.get? b=none) (hm:∀b∈priv,∃o,s.heap.get? b=some o/\DE o)
  (hk:∀b o,b∉priv->s.heap.get? b=some o->h'.get? b=some o):cL A env ι q { s with heap:=h',toks:=tk }/\oi s.heap h':=by
 have im:oi s.heap h':=λa o e hmu=>⟨o.slots,hk a o (λhp=>by obtain ⟨o',e',m'⟩:=hm a hp;rw [e] at e';cases e';exact hmu m') e⟩
 have pr:ι<+:ι:=aam _
 refine ⟨⟨⟨λb o e=>hk b o (λhp=>by rw [(hi b hp).2.2.2] at e;cases e) (R.st.keep b o e),R.st.len,R.st.nodup,R.st.fresh,λi a o e1 e2=> ?_⟩,
  ⟨R.fr.kind,R.fr.glob,R.fr.blt,?_,?_,?_,R.fr.ndup,R.fr.dis,R.fr.fresh⟩,?_,R.gens,R.os,R.hn.imm im⟩,im⟩
 ·exact (R.st.obj i a o e1 e2).at pr im λo' e=>hk a o' (λhp=>(hi a hp).1 (aaE e1)) e
 ·obtain ⟨m,hn,hmm⟩:=R.fr.loc
  exact ⟨m,hn.at' λo e=>hk _ o (λhp=>(hi _ hp).2.1 (.head _)) e,λy v e e2=>let ⟨cv,a,b⟩:=hmm y v e e2;⟨cv,a,b.mono pr im⟩⟩
 ·intro y v e e2
  refine bW λY9 y9=> ?_
  obtain ⟨c,o,cv,h1,h2,h3,h4⟩:=R.fr.cel y v e e2
  refine y9 ?_
  exact ⟨c,o,cv,h1,hk c o (λhp=>(hi c hp).2.1 (List.mem_cons_of_mem _ (aaf.mpr ⟨_,bC h1,rfl⟩))) h2,h3,h4.mono pr im⟩
 ·intro p hp
  refine bW λY9 y9=> ?_
  obtain ⟨o,ov,h1,h2⟩:=R.fr.cells p hp
  refine y9 ?_
  exact ⟨o,ov,hk p.2 o (λhp'=>(hi _ hp').2.1 (List.mem_cons_of_mem _ (aaf.mpr ⟨p,hp,rfl⟩))) h1,h2⟩
 ·intro env' he
  refine bW λY9 y9=> ?_
  obtain ⟨b1,L,o',b2,b3,b4,b5,b6⟩:=R.fs env' he
  refine y9 ?_
  exact ⟨b1,L,o',b2,hk L o' (λhp=>(hi L hp).2.2.1 (List.mem_filterMap.mpr ⟨env',he,b2⟩)) b3,b4,b5,b6⟩
theorem cL.fresh3 (R:cL A env ι q s) {a:Addr} (ha:s.heap.get? a=none):a∉own env/\a∉kJ A/\G.hB.get? a=none:=by
 obtain ⟨_,n2,n3⟩:=R.fresh_ne ha
 refine ⟨n2,λhf=> ?_,n3⟩
 obtain ⟨o,e,_⟩:=dW R.fs hf
 rw [ha] at e;cases e
theorem aY.off {priv:List Addr} {h':Heap} {tk:Nat} (R:cL A env ι q s) (P:aY A env ι s ι' q' s') (hp:∀b∈priv,s.heap.get? b=none/\b∉ι') (hm:∀b∈priv,∃o,s'.heap.get? b=some o/\DE o)
  (hk:∀b o,b∉priv->s'.heap.get? b=some o->h'.get? b=some o):aY A env ι s ι' q' { s' with heap:=h',toks:=tk }/\oi s'.heap h':=by
 have off:∀b o,s.heap.get? b=some o->b∉priv:=λb o e hb=>by rw [(hp b hb).1] at e;cases e
 obtain ⟨R',im⟩:=P.rel.off (tk:=tk) (λb hb=>let ⟨x,y,z⟩:=R.fresh3 (hp b hb).1;⟨(hp b hb).2,x,y,z⟩) hm hk
 refine ⟨⟨P.pre,R',⟨λa o e=> ?_,λa o e hW=> ?_,λa o e hW hf=> ?_⟩,P.new⟩,im⟩
 ·obtain ⟨o',e'⟩:=P.kp.size a o e;exact ⟨o',hk a o' (off a o e) e'⟩
 ·obtain ⟨sl,e'⟩:=P.kp.up a o e hW;exact ⟨sl,hk a _ (off a o e) e'⟩
 ·exact hk a o (off a o e) (P.kp.ex a o e hW hf)
theorem IT {target:Expr} {body:List Stmt} {bd:V->Cm Unit} {m:Cm Fl} {I:Addr} {priv:List Addr} {ι1:List Addr} {it:It} {St:Nat->Heap->Prop} {q1:S} {s1:Shared} (ha:j9 hq k A env) (R:cL A env ι q s)
  (hb:tF hq k env target bd) (hm:DL hq k env body m) (P1:aY A env ι s ι1 q1 s1) (hI:IK A target I priv ι1 it St) (h0:St 0 s1.heap) (hp:∀b∈priv,s.heap.get? b=none/\b∉ι1) (hg:it.g q1.H)
  {Q:Flow->Shared->Prop} {E:Value->Shared->Prop}
  (hQ:Fin A env ι s (df it.g bd m it.xs q1) (wn) Q E) :
  codeAny G.M A (.forLoop target (.ref I) body [] env) (λr s'=>match r with | .ok f=>Q f s' | .error e=>cameBackBy G.M A env E e s') s1:=by
 obtain ⟨J,toJ,ofJ⟩:∃J:Nat->Shared->Prop,(∀n s',(∃i ι' q',i<=it.xs.length/\n=it.xs.length+1-i/\ι1<+:ι'/\aY A env ι s ι' q' s'/\St i s'.heap/\it.g q'.H/\(∀b∈priv,b∉ι')/\df it.g bd m (it.xs.drop i) q'=df it.g bd m it.xs q1)->J n s')/\ ∀n s',J n s'-> ∃i ι' q',i<=it.xs.length/\n=it.xs.length+1-i/\ι1<+:ι'/\aY A env ι s ι' q' s'/\St i s'.heap/\it.g q'.H/\(∀b∈priv,b∉ι')/\df it.g bd m (it.xs.drop i) q'=df it.g bd m it.xs q1:=⟨_,λ_ _ h=>h,λ_ _ h=>h⟩
 refine codeAny_forLoop_any J ?_ (it.xs.length+1) (toJ _ _ ⟨0,ι1,q1,Nat.zero_le _,rfl,aam _,P1,h0,hg,λb hb=>(hp b hb).2,by rw [List.drop_zero]⟩)
 intro n s' hJ
 refine bW λY9 y9=> ?_
 obtain ⟨i,ι',q',hi,rfl,hpre,P,hst,hg',hpi,hr⟩:=ofJ n s' hJ
 refine y9 ?_
 have hp':∀b∈priv,s.heap.get? b=none/\b∉ι':=λb hb=>⟨(hp b hb).1,hpi b hb⟩
 rcases Nat.lt_or_ge i it.xs.length with hlt | hge
 ·obtain ⟨x,hx⟩:∃x,it.xs[i]? = some x:=⟨_,aal hlt⟩
  have hdrop:it.xs.drop i=x::it.xs.drop (i+1):=by
   rw [List.drop_eq_getElem_cons hlt];congr 1;rw [aal hlt] at hx;exact Option.some.inj hx
  rw [hdrop] at hr
  refine wpAny_mono (hI.item i x s' ι' q'.H (λv s₂=>wpAny G.M A (assign target env v) (λ_ s₂=>wpAny G.M A (execs body env) (λf s₃=>match f with
      | .next | .cont=> ∃m',m'<it.xs.length+1-i/\J m' s₃
      | .brk=>Q .next s₃
      | .ret v=>Q (.ret v) s₃) (notedBy G.M A env (cameBackBy G.M A env E)) s₂) (notedBy G.M A env (cameBackBy G.M A env E)) s₂) (notedBy G.M A env (cameBackBy G.M A env E)) hx hpre hpi P.rel.st hg' hst
   λv h' tk hk hv hst'=> ?_) (λr s₁ y=> ?_) λ_ _ y=>y
  ·obtain ⟨P2,im⟩:=aY.off (tk:=tk) R P hp' (hI.mu _ _ hst) hk
   have hA:=hb A ι' q' _ x v ha P2.rel hv
   have hno:∀b∈priv,b∉own env/\b∉kJ A:=λb hb=>let ⟨x,y,_⟩:=R.fresh3 (hp b hb).1;⟨x,y⟩
   have stp:∀ {ιa ιb:List Addr} {qa qb:S} {sa sb:Shared},St (i+1) sa.heap->(∀b∈priv,b∉ιa)->aY A env ιa sa ιb qb sb->St (i+1) sb.heap/\ ∀b∈priv,b∉ιb:=λ{ιa ιb qa qb sa sb} hs hn Pa=>by
    refine ⟨hI.frame _ _ _ hs λb hb o e=>Pa.kp.ex b o e (λhm=>(aap.mp hm).elim (hno b hb).1 (hn b hb)) (hno b hb).2,λb hb hm=> ?_⟩
    rcases Pa.new b hm with h1 | h1
    ·exact hn b hb h1
    ·obtain ⟨o,e,_⟩:=hI.mu _ _ hs b hb;rw [h1] at e;cases e
   cases hbd:bd x q' with
   | stuck =>
    haveI:df it.g bd m it.xs q1= .stuck:=by rw [<- hr];exact cK hbd
    rw [this] at hQ;exact hQ.elim
   | exc c q2 =>
    haveI e:df it.g bd m it.xs q1= .exc c q2:=by rw [<- hr];exact g0 hbd
    rw [e] at hQ
    rw [hbd] at hA
    exact hA _ _ λι2 ev s2 x=>(P2.transX x).passes ha λs'' y=>hQ ι2 ev s'' y
   | ok u q2 =>
    rw [hbd] at hA
    refine hA _ _ λι2 u' s2 Pa _=> ?_
    obtain ⟨hsa,hna⟩:=stp (qa:=q') hst' hpi Pa
    have hr2:(m.b (Ai it.g (df it.g bd m (it.xs.drop (i+1))))) q2=df it.g bd m it.xs q1:=by
     rw [<- hr];exact (fZ (f:=λ_=>m.b (Ai it.g (df it.g bd m (it.xs.drop (i+1))))) hbd).symm
    have P3:=P2.trans Pa
    have hB:=hm A ι2 q2 s2 ha P3.rel
    cases hmb:m q2 with
    | stuck=>rw [cK hmb] at hr2;rw [<- hr2] at hQ;exact hQ.elim
    | exc c q3 =>
     rw [g0 hmb] at hr2;rw [<- hr2] at hQ
     rw [hmb] at hB
     exact hB _ _ λι3 ev s3 x=>(P3.transX x).passes ha λs'' y=>hQ ι3 ev s'' y
    | ok f q3 =>
     rw [fZ hmb] at hr2
     rw [hmb] at hB
     refine hB _ _ λι3 cf s3 Pb hf=> ?_
     have P4:=P3.trans Pb
     cases f with
     | ret v =>
      obtain ⟨cv,rfl,hv⟩:=hf
      rw [<- hr2] at hQ
      exact hQ ι3 (.ret cv) s3 P4 ⟨cv,rfl,hv⟩
     | next =>
      rw [show cf= .next from hf]
      unfold Ai at hr2
      dsimp only at hr2 ⊢
      obtain ⟨hsb,hnb⟩:=stp (qa:=q2) hsa hna Pb
      by_cases hg3:it.g q3.H
      ·rw [if_pos hg3] at hr2
       exact ⟨it.xs.length+1-(i+1),vF 0x30113c192c01192c191c0c212 (aab (cu 0x191c190c010011 hi)) (sA _ _),toJ _ _ ⟨i+1,ι3,q3,hlt,rfl,hpre.trans (Pa.pre.trans Pb.pre),P4,hsb,hg3,hnb,hr2⟩⟩
      ·rw [if_neg hg3] at hr2;rw [<- hr2] at hQ;exact hQ.elim
  ·cases r with
   | none=>exact y.elim
   | some v=>exact y
 ·haveI hi':i=it.xs.length:=aag (hi) (hge)
  subst hi'
  rw [List.drop_length] at hr
  refine wpAny_mono (hI.done s' ι' q'.H (λs₁=>Q .next s₁) _ hpre hpi P.rel.st hg' hst P.rel.hn λh' tk hk=> ?_) (λr s₁ y=> ?_) λ_ _ y=>y
  ·obtain ⟨P2,im⟩:=aY.off (tk:=tk) R P hp' (hI.mu _ _ hst) hk
   rw [<- hr] at hQ
   exact hQ ι' .next _ P2 rfl
  ·cases r with
   | none=>exact wpAny_execs_nil y
   | some v=>exact y.elim
end
section
variable {hq:Bool} {k:Nat} {env:Env} {A:Around} {ι ι':List Addr} {q q':S} {s s':Shared} {H H':Hp} {h:Heap}
theorem dH {target iter:Expr} {body:List Stmt} {pos:Pos} {mi:Cm It} {bd:V->Cm Unit} {m:Cm Fl} (h1:Hm hq k env target iter mi) (hb:tF hq k env target bd) (hm:DL hq k env body m)
  (hs:∀x,foldedSetIterable iter env x=pure x):Ex hq k env (.For target iter body [] pos) (mi.b λit=>df it.g bd m it.xs):=by
 intro A ι q s ha R
 have hi:=h1 A ι q s ha R
 refine aU.of λQ E hQ=>wpAny_For ?_ hs
 cases hmi:mi q with
 | stuck=>rw [cK hmi] at hQ;exact hQ.elim
 | exc c q1=>rw [g0 hmi] at hQ;rw [hmi] at hi;exact hi _ _ hQ
 | ok it q1 =>
  rw [fZ hmi] at hQ
  rw [hmi] at hi
  refine hi _ _ λι1 cv s1 P1 hr=> ?_
  refine bW λY9 y9=> ?_
  obtain ⟨⟨I,priv,St,rfl,h0,hp,_,hI⟩,hg⟩:=hr
  refine y9 ?_
  exact IT ha R hb hm P1 hI h0 hp (hg q1 rfl) hQ
theorem bk {x:String} {p:Pos} (hx:yI env x:=by exact .inl ∅):tF hq k env (.Name (Str.ofString x) p) (aL x) :=
 λA ι q s v cv ha R hv=>(pG hx R hv).imp λQ E y=>wpAny_assign_Name y
noncomputable def wS (x y:String):V->Cm Unit
 | .tup [a,b]=>(aL x a).b λ_=>aL y b
 | _=> .stk
theorem DG {x y:String} {p p2 pos:Pos} {kk:Nat} (hh:hq=true) (hx:yI env x) (hy:yI env y):tF hq k env (.Tuple [.Name (Str.ofString x) p,.Name (Str.ofString y) p2] kk pos) (wS x y):=by
 intro A ι q s v cv ha R hv
 cases v with
 | tup l =>
  cases l with
  | nil=>trivial
  | cons a l =>
  cases l with
  | nil=>trivial
  | cons b l =>
  cases l with
  | cons _ _=>trivial
  | nil =>
  refine bW λY9 y9=> ?_
  obtain ⟨t,vs,rfl,ht,ca,vs1,rfl,ra,cb,vs2,rfl,rb,e⟩:=hv
  refine y9 ?_
  rw [show vs2=[] from e] at ht
  haveI key:∀h',s.heap.StaysIn h'->aU A env ι { s with heap:=h' } (((aL x a).b λ_=>aL y b) q) (λ_ _ _ _=>True) (λQ E s₁=>wpAny G.M A (storeName env (Str.ofString x) ca) (λ_ s₂=>wpAny G.M A (storeName env (Str.ofString y) cb) Q E s₂) E s₁):=λh' st=>by
   have R':=R.stays (tk:=s.toks) st
   have im:=oi.of_stays st
   exact aU.b (m:=aL x a) (T':=λ_ Q E s₁=>wpAny G.M A (storeName env (Str.ofString y) cb) Q E s₁) (pG hx R' (ra.mono (aam _) im)) λ_ q2 ι2 _ s2 _ P2 _ =>
    pG hy P2.rel (P2.vrel R' (rb.mono (aam _) im))
  show aU A env ι s (.ok () ⟨upd (upd q.l x a) y b,q.H⟩) _ _
  intro Q E hQ
  refine assign_Tuple_tuple (ha.hd hh) ht rfl rfl λh' he=> ?_
  have st:s.heap.StaysIn h':=λb o e=>he b o (Nat.ne_of_lt (Heap.lt_size e)) e
  show wpAny G.M A (do holding _ (assign (.Name (Str.ofString x) p) env ca);do holding _ (assign (.Name (Str.ofString y) p2) env cb);pure ()) Q E { s with heap:=h' }
  refine wpAny_bind (wpAny_holding (wpAny_assign_Name ?_))
  refine wpAny_mono (key h' st (λu s₂=>Q () s₂) E λι2 u s2 P2 _=>hQ ι2 () s2 ((aY.stays (tk:=s.toks) R st).trans P2) trivial) (λu s₂ y=> ?_) λ_ _ y=>y
  exact wpAny_bind (wpAny_holding (wpAny_assign_Name (wpAny_mono y (λu s₂ z=>wpAny_pure z) λ_ _ z=>z)))
 | _=>trivial
inductive IZ:Expr->Prop
 | name (x:Str) (p:Pos):IZ (.Name x p)
 | pair (es:List Expr) (kk:Nat) (p:Pos):IZ (.Tuple es kk p)
theorem AY {target:Expr} (ht:IZ target) {I l:Addr} {i:Nat} {v:Value} {Q:Unit->Shared->Prop} {E:Value->Shared->Prop} (hit:s.heap.IsListIter I l i) (hQ:Q () s) :
  wpAny G.M A (letOwnedTupleGo target (.ref I) v) Q E s:=by
 cases ht with
 | name x p=>exact wpAny_pure hQ
 | pair es kk p =>
  cases v with
  | ref T=>exact wpAny_letOwnedTupleGo_listiter hit hQ
  | _=>exact wpAny_pure hQ
noncomputable def cW (v:V):Cm It:=λq=>match av v q.H with
 | some xs=> .ok ⟨xs,λH=>av v H=some xs⟩ q
 | none=> .stuck
theorem fP {h:Heap} {I l:Addr} {i:Nat} (x:h.IsListIter I l i):∃o,h.get? I=some o/\DE o:=let ⟨o,ho,hc,_⟩:=x;⟨o,ho,.inl ⟨_,hc,by decide⟩⟩
theorem BR {h h':Heap} {I:Addr} (hm:∃o,h.get? I=some o/\DE o) (hs:Heap.ExtBut I h h'):oi h h':=λa o e hmu=>⟨o.slots,hs a o (λq=>by
 obtain ⟨o',e',m'⟩:=hm;rw [<- q,e] at e';cases e';exact hmu m') e⟩
end
theorem vC:entryFor table "proto.unchain" = some Builtin.«proto.unchain» := entryFor_of_fast ∅
section
variable {prog:Program} {w:World} {A:Around} {s:Shared} {α:Type}
theorem Ac {Q:α->Shared->Prop} {E:Value->Shared->Prop} (hn:sE A s.heap) {t:Addr} {vs:Array Value} {o:Obj} (h0:s.heap.get? t=some o) (hd:o.data= .fields vs) (h2:2<vs.size) (hc:o.cls= .type "StopIteration")
  (hE:∀h',(∀b o,b≠t->s.heap.get? b=some o->h'.get? b=some o)->(∃o',h'.get? t=some o'/\o'.cls= .type "StopIteration")->E (.ref t) { s with heap:=h' }) :
  wpAny (model prog w) A (raiseNew (.ref t):Sem α) Q E s:=by
 simp only [raiseNew]
 refine wpAny_bind (wpAny_handled ?_)
 cases hh:A.handled with
 | none=>exact wpAny_bind (wpAny_pure (wpAny_throw (hE s.heap (λ_ _ _ e=>e) ⟨o,h0,hc⟩)))
 | some v =>
  refine bW λY9 y9=> ?_
  obtain ⟨e,oe,C,ws,rfl,e1,e2,e3,e4⟩:=hn v hh
  refine y9 ?_
  haveI ne:e≠t:=λq=>by subst q;rw [e1] at h0;cases h0;rw [e2] at hc;cases hc
  dsimp only
  rw [if_pos (show (Value.ref e != Value.ref t)=true by simp [ne])]
  refine wpAny_bind (wpAny_holding (wpAny_runValue (codeAny_builtin vC ?_)))
  show wpAny _ _ (field (.ref e) 2 >>= _) _ _ s
  refine wpAny_bind (wpAny_field e1 e3 e4 ?_)
  rw [if_pos ∅]
  refine wpAny_bind (wpAny_pure (wpAny_pure ?_))
  haveI:=wpAny_setField (M:=model prog w) (A:=A) (E:=E) (i:=2) (x:= .ref e) (Q:=λ_ s'=>wpAny (model prog w) A (throw (.ref t):Sem α) Q E s') h0 hd h2 (wpAny_throw (hE _ (λb o hb eb=>(Heap.get?_update_other _ _ (Ne.symm hb)).trans eb) ⟨_,Heap.get?_update_self _ h0 (Obj.isFreed_of_fields (Obj.data_mapFields hd _)),(Obj.cls_mapFields _ _).trans hc⟩))
  exact wpAny_bind this
theorem wV {β:Type} {F:Value->Sem β} {Q':β->Shared->Prop} {Q:Option Value->Shared->Prop} {E:Value->Shared->Prop} (hn:sE A s.heap) (hF:∀v,F v=raiseNew v)
  (hQ:∀h',s.heap.StaysIn h'->Q none { s with heap:=h' }) :
  wpAny (model prog w) A.in1 (newExc (.type "StopIteration") [] >>= F) Q' (λe s'=>wpAny (model prog w) A (do
   let b <- isInstance e (.type "StopIteration")
   if b=true then pure none else throw e) Q E s') s:=by
 simp only [newExc,newTuple]
 refine wpAny_bind (wpAny_bind (wpAny_newObj_type ?_ (by size_fits)))
 refine wpAny_bind (m:=firstArgMember _ _) (wpAny_of_eq (a:=Value.none) (by first | rfl | (simp only [firstArgMember];rfl)) ?_)
 refine wpAny_newObj_type ?_ (by size_fits)
 rw [hF]
 refine Ac (A:=A.in1) (sE.imm (A:=A.in1) hn (.of_stays λb o e=>aak _ (aak _ e))) (aaM _ rfl) rfl (by rw [Array.size_append];exact aa9 (show 2<6 by decide) (aaQ _ _)) rfl λh' hk ho=> ?_
 obtain ⟨o',e1,e2⟩:=ho
 refine wpAny_bind (wpAny_isInstance (T := "StopIteration") (b:=true) ⟨_,e1,e2⟩ isSubtype_stop ?_)
 exact wpAny_pure (hQ h' λb o e=>hk b o (Nat.ne_of_lt (Heap.lt_size (aak _ e))) (aak _ (aak _ e)))
theorem vE {Q:Option Value->Shared->Prop} {E:Value->Shared->Prop} {it l:Addr} {i:Nat} {items:Array Value} (hn:sE A s.heap) (hit:s.heap.IsListIter it l i) (hl:s.heap.IsList l items) (hx:items[i]? = none)
  (hQ:∀h',Heap.ExtBut it s.heap h'->Q none { s with heap:=h' }):wpAny (model prog w) A (pyNext (.ref it)) Q E s:=by
 haveI hm:=fP hit
 refine bW λY9 y9=> ?_
 obtain ⟨o,ho,hc,hd⟩:=id hit
 obtain ⟨ol,hol,_,nl,hdl⟩:=hl
 refine y9 ?_
 unfold pyNext
 refine wpAny_bind (wpAny_attempt (wpAny_callSpecial?_slot (name:=Str.ofString "__next__") hit.typeIs slot_listiter_next (wpAny_call_entry slot_listiter_next hit.typeIs entry_listiter_next ?_ (args_listiter_next _))))
 show wpAny _ _ (field (.ref it) 0 >>= _) _ _ s
 refine wpAny_bind (wpAny_field ho hd (x:= .ref l) rfl ?_)
 show wpAny _ _ (if (Value.ref l==Value.none)=true then _ else _) _ _ s
 rw [if_neg (show ¬((Value.ref l==Value.none)=true) from aaF)]
 show wpAny _ _ (field (.ref it) 1 >>= _) _ _ s
 refine wpAny_bind (wpAny_field ho hd (x:= .int i 0) rfl ?_)
 show wpAny _ _ (seqItems? (.ref l) >>= _) _ _ s
 refine wpAny_bind (wpAny_seqItems hol hdl ?_)
 simp only [Int.toNat_natCast,hx]
 refine wpAny_bind (wpAny_rule (wpAny_bind (wpAny_setField ho hd (by simp) ?_)))
 have ex:=(Heap.SameBut.update s.heap it (Obj.mapFields (·.setIfInBounds 0 Value.none))).extBut
 exact wV (hn.imm (BR hm ex)) (λ_=>rfl) λh' hs=>hQ h' λb o hb e=>hs b o (ex b o hb e)
theorem uy {Q:Option Value->Shared->Prop} {E:Value->Shared->Prop} {it:Addr} {x left step:Int} (hn:sE A s.heap) (hit:IsRangeIter s.heap it x left step) (hleft:left<=0)
  (hQ:∀h',s.heap.StaysIn h'->Q none { s with heap:=h' }):wpAny (model prog w) A (pyNext (.ref it)) Q E s:=by
 have hT:s.TypeIs (.ref it) "range_iterator" := ⟨_,hit,rfl⟩
 unfold pyNext
 refine wpAny_bind (wpAny_attempt (wpAny_callSpecial?_slot (name:=Str.ofString "__next__") hT F.slot_range_iterator_next (wpAny_call_entry F.slot_range_iterator_next hT F.entry_range_iterator_next ?_ (F.args_range_iterator_next_1 _))))
 show wpAny _ _ (field (.ref it) 0 >>= _) _ _ s
 refine wpAny_bind (wpAny_field hit rfl (x:=rawInt x) rfl ?_)
 show wpAny _ _ (field (.ref it) 1 >>= _) _ _ s
 refine wpAny_bind (wpAny_field hit rfl (x:=rawInt left) rfl ?_)
 show wpAny _ _ (field (.ref it) 2 >>= _) _ _ s
 refine wpAny_bind (wpAny_field hit rfl (x:=rawInt step) rfl ?_)
 show wpAny _ _ (if left<=0 then _ else _) _ _ s
 rw [if_pos hleft]
 refine wpAny_bind (wpAny_rule ?_)
 refine wpAny_bind ?_
 exact wV hn (λ_=>rfl) hQ
end
section
variable {hq:Bool} {k:Nat} {env:Env} {A:Around} {ι ι':List Addr} {q q':S} {s s':Shared} {H H':Hp} {h:Heap}
theorem Eu (C:bL G) {target:Expr} (ht:IZ target) {I l:Addr} {v:V} {xs:List V} (hv:∀ι',ι<+:ι'-> ∀h,aM ι' h v (.ref l)) (hs:(∃j,v= .ref j)\/v= .scr) (hI:l≠I) :
  IK A target I [I] ι ⟨xs,λH=>av v H=some xs⟩ (λi h=>h.IsListIter I l i) where
 mu:=λi h st b hb=>by simp at hb;subst hb;exact fP st
 frame:=λi h h' st hk=>st.at λo e=>hk I (by simp) o e
 item:=λi x s ι' H Q E hx hpre hpi R hg st hQ=>by
  refine bW λY9 y9=> ?_
  obtain ⟨a,vs,e,g1,g2⟩:=fO C R (hv ι' hpre s.heap) hg
  refine y9 ?_
  cases e
  obtain ⟨cv,c1,c2⟩:=g2.get hx
  refine wpAny_pyNext_list_item st g1 (x:=cv) (by simpa using c1) λh' st' hs=> ?_
  exact AY ht st' (hQ cv h' s.toks (λb o hb e=>hs.extBut b o (λq=>hb (by simp [q])) e) (c2.mono (aam _) (BR (fP st) hs.extBut)) st')
 done:=λs ι' H Q E hpre hpi R hg st hn hQ=>by
  refine bW λY9 y9=> ?_
  obtain ⟨a,vs,e,g1,g2⟩:=fO C R (hv ι' hpre s.heap) hg
  refine y9 ?_
  cases e
  refine vE hn st g1 (by simp [g2.length]) λh' hs=> ?_
  exact hQ h' s.toks λb o hb e=>hs b o (λq=>hb (by simp [q])) e
 self:=λi s Q E st hQ=>wpAny_pyIter_listiter st hQ
theorem bG (C:bL G) {target iter:Expr} (ht:IZ target) {m:Cm V} (h1:Ev hq k env iter m):Hm hq k env target iter (m.b λv=>cW v):=by
 intro A ι q s ha R
 refine aU.of λQ E hQ=> ?_
 have h1':=h1 A ι q s ha R
 cases hm:m q with
 | stuck=>rw [cK hm] at hQ;exact hQ.elim
 | exc c q1=>rw [g0 hm] at hQ;rw [hm] at h1';exact h1' _ _ hQ
 | ok v q1 =>
  rw [fZ hm] at hQ
  rw [hm] at h1'
  refine h1' _ _ λι1 cv s1 P1 hv=> ?_
  unfold cW at hQ
  cases hi:av v q1.H with
  | none=>rw [hi] at hQ;exact hQ.elim
  | some xs =>
   rw [hi] at hQ
   obtain ⟨l,vs,rfl,g1,g2⟩:=fO C P1.rel.st hv hi
   refine wpAny_pyIter_list g1 ?_
   haveI st:s1.heap.StaysIn (s1.heap.push { cls:= .type "list_iterator",data:= .fields #[.ref l,.int 0 0] }):=λb o e=>aak _ e
   have nw:s1.heap.get? s1.heap.objs.size=none:=aaH (aaK _)
   haveI P2:=P1.trans (aY.stays (tk:=s1.toks) P1.rel st)
   haveI hv2:∀ι',ι1<+:ι'-> ∀h,aM ι' h v (.ref l):=λι' hp h=>ub hi hv hp
   refine hQ ι1 _ _ P2 ⟨⟨s1.heap.objs.size,[s1.heap.objs.size],_,rfl,⟨_,aaM _ rfl,rfl,rfl⟩,λb hb=> ?_,λ_ _=>trivial,Eu C ht hv2 ?_ λe=> ?_⟩,λq' e=> ?_⟩
   ·simp at hb;subst hb
    refine ⟨?_,(P1.rel.fresh_ne nw).1⟩
    cases e:s.heap.get? s1.heap.objs.size with
    | none=>rfl
    | some o=>obtain ⟨o',e'⟩:=P1.kp.size _ _ e;rw [nw] at e';cases e'
   ·exact AW hi
   ·obtain ⟨o,e',_⟩:=g1
    rw [e,nw] at e';cases e'
   ·cases e
    exact hi
theorem GZ (C:bL G) {target:Expr} {x:String} {bv:Value} {es:List Expr} {p pos:Pos} {m:Cm (List V)} {f:List V->Cm It} (hx:env.kindOf (Str.ofString x)=some .globalImplicit) (hv:nsIn G.K mainGlobals (Str.ofString x)=some none)
  (hb:bootBuiltins (Str.ofString x)=some bv) (hn:Str.ofString x ≠ "__name__") (hd:(Str.ofString x==("__debug__" : Str))=false) (hc:te bv) (h1:Bv hq k env es m) (hp:(backTo pos (starEach es env)).any (·.1)=false)
  (hf:∀A ι q s vs cvs,j9 hq k A env->cL A env ι q s->aO ι s.heap vs cvs->aU A env ι s (f vs q) (λι' h it cv=>yL A target s.heap ι' h it cv/\ ∀q',f vs q= .ok it q'->it.g q'.H)
   (λQ E s=>wpAny G.M A (call bv cvs) (λx s₁=>wpAny G.M A (pyIter x) Q E s₁) E s)) :
  Hm hq k env target (.Call (.Name (Str.ofString x) p) es [] pos) (m.b λvs=>f vs):=by
 intro A ι q s ha R
 refine aU.of λQ E hQ=> ?_
 have h1':=h1 pos A ι q s ha R
 show wpAny G.M A (do callWith pos (<- eval (.Name (Str.ofString x) p) env) [] (backTo pos (starEach es env)) []) _ E s
 refine wpAny_bind (mw C R hx hv hb hn hd ?_)
 refine hc _ _ _ _ _ _ _ hp (cV hp ?_)
 cases hm:m q with
 | stuck=>rw [cK hm] at hQ;exact hQ.elim
 | exc c q1=>rw [g0 hm] at hQ;rw [hm] at h1';exact h1' _ _ hQ
 | ok vs q1 =>
  rw [fZ hm] at hQ
  rw [hm] at h1'
  refine h1' _ _ λι1 cvs s1 P1 hv=> ?_
  haveI h2:=hf A ι1 q1 s1 vs cvs ha P1.rel hv
  refine aU.mono P1 h2 ?_
  cases hfv:f vs q1 with
  | stuck=>rw [hfv] at hQ;exact hQ
  | exc c q2=>rw [hfv] at hQ;exact hQ
  | ok it q2 =>
   rw [hfv] at hQ
   refine λι2 cv s2 P2 r=>hQ ι2 cv s2 P2 ⟨?_,λq' e=> ?_⟩
   ·refine bW λY9 y9=> ?_
    obtain ⟨⟨I,priv,St,e1,e2,e3,e4,e5⟩,_⟩:=r
    refine y9 ?_
    refine ⟨I,priv,St,e1,e2,λb hb=>⟨?_,(e3 b hb).2⟩,e4,e5⟩
    cases e:s.heap.get? b with
    | none=>rfl
    | some o=>obtain ⟨o',e'⟩:=P1.kp.size _ _ e;rw [(e3 b hb).1] at e';cases e'
   ·exact r.2 q' e
noncomputable def bN (a:Int):Nat->List V
 | 0=>[]
 | n+1=> .int a::bN (a+1) n
theorem gm:∀(n:Nat) (a:Int),(bN a n).length=n
 | 0,_=>rfl
 | n+1,a=>by rw [bN,aas,gm n]
theorem uI:∀(n:Nat) (a:Int) (i:Nat) (x:V),(bN a n)[i]? = some x->x= .int (a+i)/\i<n
 | 0,a,i,x,e=>by simp [bN] at e
 | n+1,a,0,x,e=>by simp [bN] at e;exact ⟨by rw [<- e];simp,b9 0x190c0910⟩
 | n+1,a,i+1,x,e=>by
  simp [bN] at e
  obtain ⟨h1,h2⟩:=uI n (a+1) i x e
  exact ⟨by rw [h1];congr 1;push_cast;exact aaU (ge 0x190fc0c0f190cc80) (ge 0xf190cc190fc0c80),cu 0x191c190c110111 h2⟩
noncomputable def fi:List V->Cm It
 | [.int b]=>if -1000000<b/\b<1000000 then .p ⟨bN 0 b.toNat,λ_=>True⟩ else .stk
 | [.int a,.int b]=>if (-1000000<a/\a<1000000) /\ -1000000<b/\b<1000000 then .p ⟨bN a (b-a).toNat,λ_=>True⟩ else .stk
 | _=> .stk
theorem Cs (a b:Int):Builtin.Range.rangeSize a b 1=(((b-a).toNat:Nat):Int):=by
 unfold Builtin.Range.rangeSize
 simp
 split
 ·rename_i h;exact (Int.max_eq_left (Int.sub_nonneg.mpr (Int.le_of_lt h))).symm
 ·rename_i h;exact (Int.max_eq_right (Int.sub_nonpos_of_le (Int.not_lt.mp h))).symm
theorem ye {z:Int} (h1 : -1000000<z) (h2:z<2000000):Builtin.Range.rangeFitsLong z=true:=by
 unfold Builtin.Range.rangeFitsLong;simp
 exact ⟨aa8 ∅ (Int.le_of_lt h1),Int.lt_trans h2 ∅⟩
theorem Fb {a b:Int} (ha : -1000000<a/\a<1000000) (hb : -1000000<b/\b<1000000):Builtin.Range.small a b 1=true:=by
 unfold Builtin.Range.small
 simp [Cs,ye ha.1 (Int.lt_trans ha.2 ∅),ye hb.1 (Int.lt_trans hb.2 ∅),ye (z:=1) ∅ ∅,ye (z:=max (b-a) 0) (aaX ∅ (Int.le_max_right _ _)) (Int.max_lt.mpr ⟨aaX (Int.sub_lt_sub hb.2 ha.1) ∅,by decide⟩)]
theorem C9 {x:Str} {p:Pos} {I:Addr} (a:Int) (n:Nat) :
  IK A (.Name x p) I [I] ι ⟨bN a n,λ_=>True⟩ (λi h=>IsRangeIter h I (a+(i:Nat)) ((n:Int)-(i:Nat)) 1) where
 mu:=λi h st b hb=>by simp at hb;subst hb;exact ⟨_,st,.inl ⟨_,rfl,by decide⟩⟩
 frame:=λi h h' st hk=>hk I (by simp) _ st
 item:=λi x s ι' H Q E hx hpre hpi R hg st hQ=>by
  obtain ⟨rfl,hlt⟩:=uI _ _ _ _ hx
  refine wpAny_pyNext_range_item st (cu 0xf1fe09910111 hlt) λh' st' hs=> ?_
  refine wpAny_pure (hQ _ h' _ (λb o hb e=>hs.extBut b o (λq=>hb (by simp [q])) e) (Aj _ _) ?_)
  rw [show a+((i+1:Nat):Int)=a+(i:Int)+1 by push_cast;exact aaU (ge 0x190f0cc190fc0c80) (ge 0x190fc0c190f0cc80),show (n:Int)-((i+1:Nat):Int)=(n:Int)-(i:Int)-1 by push_cast;exact aaU (cu 0x191f0fee191fc0fe80) (cu 0x191fc0fe191f0fee80)]
  exact st'
 done:=λs ι' H Q E hpre hpi R hg st hn hQ=>by
  refine uy hn st (by dsimp only;rw [gm];exact b9 0x90f0fe80) λh' hs=> ?_
  exact hQ h' s.toks λb o hb e=>hs b o e
 self:=λi s Q E st hQ=>wpAny_pyIter_rangeiter st hQ
theorem rG {x:Str} {p:Pos} {a b:Int} {t u v:Tok} {tk:Nat} (R:cL A env ι q s) (ha : -1000000<a/\a<1000000) (hb : -1000000<b/\b<1000000) {Q:Value->Shared->Prop} {E:Value->Shared->Prop}
  (hQ:∀ι'' cv s'',aY A env ι s ι'' q s''->(yL A (.Name x p) s.heap ι'' s''.heap ⟨bN a (b-a).toNat,λ_=>True⟩ cv)->Q cv s'') :
  wpAny G.M A (pyIter (.ref s.heap.objs.size)) Q E { s with heap:=s.heap.push { cls:= .type "range",data:= .fields #[.int a t,.int b u,.int 1 v] },toks:=tk }:=by
 haveI hsz:=Cs a b
 refine wpAny_pyIter_range (aaM _ rfl) ?_ ?_
 ·exact Fb ha hb
 ·rw [hsz]
  haveI st:s.heap.StaysIn ((s.heap.push { cls:= .type "range",data:= .fields #[.int a t,.int b u,.int 1 v] }).push { cls:= .type "range_iterator",data:= .fields #[rawInt a,rawInt (((b-a).toNat:Nat):Int),rawInt 1] }) :=
   λc o e=>aak _ (aak _ e)
  refine hQ ι _ _ (aY.stays R st) ⟨_,[_],_,rfl,?_,λc hc=> ?_,λ_ _=>trivial,C9 a (b-a).toNat⟩
  ·haveI:=aaM (s.heap.push { cls:= .type "range",data:= .fields #[.int a t,.int b u,.int 1 v] }) (o:={ cls:= .type "range_iterator",data:= .fields #[rawInt a,rawInt (((b-a).toNat:Nat):Int),rawInt 1] }) rfl
   simpa using this
  ·simp at hc;subst hc
   have nw:s.heap.get? (s.heap.push { cls:= .type "range",data:= .fields #[.int a t,.int b u,.int 1 v] }).objs.size=none:=aaH (by rw [Heap.size_push];exact b9 0x190c000)
   rw [Heap.size_push] at nw
   exact ⟨nw,(R.fresh_ne nw).1⟩
theorem FV {x:Str} {p:Pos} (R:cL A env ι q s) {vs:List V} {cvs:List Value} (hv:aO ι s.heap vs cvs) :
  aU A env ι s (fi vs q) (λι' h it cv=>yL A (.Name x p) s.heap ι' h it cv/\ ∀q',fi vs q= .ok it q'->it.g q'.H)
   (λQ E s=>wpAny G.M A (call (.type "range") cvs) (λx s₁=>wpAny G.M A (pyIter x) Q E s₁) E s):=by
 cases vs with
 | nil=>trivial
 | cons v vs =>
 cases v with
 | int a =>
  cases vs with
  | nil =>
   obtain ⟨cv,_,rfl,⟨t,rfl⟩,e⟩:=hv;rw [show _=[] from e]
   unfold fi;dsimp only
   split
   ·rename_i hb
    intro Q E hQ
    refine call_range_1 (rG (b:=a) R ∅ hb λι2 cv s2 P r=>hQ ι2 cv s2 P ⟨by simpa using r,λq' e=> ?_⟩)
    cases e;trivial
   ·trivial
  | cons v vs =>
  cases vs with
  | cons _ _=>cases v<;>trivial
  | nil =>
  cases v with
  | int b =>
   obtain ⟨cv,_,rfl,⟨t,rfl⟩,cv2,_,rfl,⟨t2,rfl⟩,e⟩:=hv;rw [show _=[] from e]
   unfold fi;dsimp only
   split
   ·rename_i hb
    intro Q E hQ
    refine call_range_2 (rG (b:=b) R hb.1 hb.2 λι2 cv s2 P r=>hQ ι2 cv s2 P ⟨r,λq' e=> ?_⟩)
    cases e;trivial
   ·trivial
  | _=>trivial
 | _=>trivial
theorem nB (C:bL G) {x:Str} {px p pos:Pos} {es:List Expr} {m:Cm (List V)} (hx:env.kindOf (Str.ofString "range")=some .globalImplicit) (hv:nsIn G.K mainGlobals (Str.ofString "range")=some none)
  (h1:Bv hq k env es m) (hp:(backTo pos (starEach es env)).any (·.1)=false):Hm hq k env (.Name x px) (.Call (.Name (Str.ofString "range") p) es [] pos) (m.b λvs=>fi vs) :=
 GZ C hx hv (bv:= .type "range") ∅ ∅ ∅ (kl _) h1 hp λA ι q s vs cvs ha R hv=>FV R hv
end
noncomputable def qd (K:Frag) (N:Addr):Bool:=match K.lookup N with
 | some ⟨_,_,.dict es _,_⟩=>es.toList.all (λe=>match e.key with | .str _ _=>true | _=>false)&&(nsFind es "__init__").isNone
 | _=>false
noncomputable def DW:List Value:=[.type "ValueError",.type "Exception",.type "BaseException",.type "object"]
noncomputable def CK (K:Frag):List Value->Bool
 | .ref a::tl=>(match K.lookup a with | some ⟨_,_,.cls cd,_⟩=>qd K cd.ns&&CK K tl | _=>false)
 | l=>decide (l=DW)
noncomputable def oZ (K:Frag) (C:Addr):Bool:=match K.lookup C with
 | some ⟨.type "type",_,.cls cd,sl⟩=>(match cd.mro with
   | .ref C'::bm=>decide (C'=C)&&CK K bm
   | _=>false) && !cd.hasDel&&decide (sl.size=6)&&decide (sl[4]? = some (some (.builtin "ValueError.__new__")))&&qd K cd.ns
 | _=>false
theorem uz {K:Frag} {N:Addr} {h:Heap} (X:K.In h) (x:qd K N=true):∃m,h.Ns N m/\m "__init__" = none:=by
 unfold qd at x
 cases hl:K.lookup N with
 | none=>rw [hl] at x;cases x
 | some o =>
 rw [hl] at x
 obtain ⟨c,d,da,sl⟩:=o
 cases da with
 | dict es n =>
  dsimp only at x
  rw [Bool.and_eq_true,List.all_eq_true] at x
  refine ⟨nsFind es,⟨_,es,n,X _ _ hl,rfl,λe he=> ?_,λ_=>rfl⟩,Option.isNone_iff_eq_none.mp x.2⟩
  have:=x.1 e (Array.mem_toList_iff.mpr he)
  cases hk:e.key with
  | str a b=>exact ⟨_,_,rfl⟩
  | _=>rw [hk] at this;cases this
 | _=>cases x
theorem xk {K:Frag} {h:Heap} (X:K.In h):∀ {l:List Value},CK K l=true->OwnTail h DW l
 | [],x=>(nomatch of_decide_eq_true (p:=[]=DW) x)
 | v::tl,x=>by
  cases v with
  | ref a =>
   change (match K.lookup a with | some ⟨_,_,.cls cd,_⟩=>qd K cd.ns&&CK K tl | _=>false)=true at x
   cases hl:K.lookup a with
   | none=>rw [hl] at x;cases x
   | some o =>
   rw [hl] at x
   refine bW λY9 y9=> ?_
   obtain ⟨c,d,da,sl⟩:=o
   refine y9 ?_
   cases da with
   | cls cd =>
    dsimp only at x
    rw [Bool.and_eq_true] at x
    obtain ⟨m,hn,hi⟩:=uz X x.1
    exact .own (X _ _ hl) hn hi (xk X x.2)
   | _=>cases x
  | _=>rw [show _=DW from of_decide_eq_true x];exact .base
theorem IH {K:Frag} {C:Addr} {h:Heap} (X:K.In h) (x:oZ K C=true) :
  ∃nm q N bs bm hdct sx sub ab col dd k0 k1 k2 k3 k5 mN,A5 (h.get? C=some (excClassObj nm q C N bs bm hdct sx sub ab col dd k0 k1 k2 k3 k5 "ValueError.__new__")) (K.lookup C=some (excClassObj nm q C N bs bm hdct sx sub ab col dd k0 k1 k2 k3 k5 "ValueError.__new__")) (h.Ns N mN) (mN "__init__" = none) (OwnTail h DW bm):=by
 refine wG λX' kX=> ?_
 unfold oZ at x
 split at x
 ·rename_i oc dd cd sl hl
  obtain ⟨nm,bs,mro,N,q,hdct,sx,sub,ab,col,hdel⟩:=cd
  simp only [Bool.and_eq_true,decide_eq_true_eq,Bool.not_eq_true'] at x
  obtain ⟨⟨⟨⟨hm,hdl⟩,hsz⟩,hmk⟩,hns⟩:=x
  split at hm
  ·rename_i C' bm
   simp only [Bool.and_eq_true,decide_eq_true_eq] at hm
   obtain ⟨rfl,ht⟩:=hm
   obtain ⟨l⟩:=sl
   obtain ⟨k0,k1,k2,k3,k5,rfl⟩:=six_places (l:=l) (by simpa using hsz) (by simpa using hmk)
   obtain rfl:hdel=false:=hdl
   obtain ⟨m,hn,hi⟩:=uz X hns
   exact kX ⟨nm,q,N,bs,bm,hdct,sx,sub,ab,col,dd,k0,k1,k2,k3,k5,m,X _ _ hl,hl,hn,hi,xk X ht⟩
  ·cases hm
 ·cases x
section
variable {hq:Bool} {k:Nat} {env:Env} {A:Around} {ι ι':List Addr} {q q':S} {s s':Shared} {H H':Hp} {h:Heap}
theorem dw.made {c:String} {C e:Addr} {args:List Value} {h':Heap} {tk:Nat} (ha:j9 hq k A env) (R:cL A env ι q s) (hc:G.xcl c=some C) (hm:Heap.MadeExcOf s.heap h' e (.ref C) args) :
  dw A env ι s c ι q { s with heap:=h',toks:=tk } (.ref e):=by
 haveI fsn:∀env'∈A.frames.getD [],∀L,env'.frame=some L->L∈kJ A:=λenv' he L hf=>List.mem_filterMap.mpr ⟨env',he,hf⟩
 have frm:∀a∈kJ A,∃o,s.heap.get? a=some o/\(∃es n,o.data= .dict es n)/\a∉ι/\G.hB.get? a=none:=λa hf=>by
  refine bW λY9 y9=> ?_
  obtain ⟨e',he,hf'⟩:=List.mem_filterMap.mp hf
  obtain ⟨_,L,o,h1,h2,h3,h4,h5⟩:=R.fs e' he
  refine y9 ?_
  obtain rfl:L=a:=Option.some.inj (h1.symm.trans hf')
  exact ⟨o,h2,h3,h4,h5⟩
 have get:∀a o,s.heap.get? a=some o->a∉kJ A->(hideAll s.heap (kJ A)).get? a=some o:=λa o e n=>hideAll_get _ e n
 have im:oi s.heap (hideAll s.heap (kJ A)):=λa o e hmu=>⟨o.slots,get a o e λhf=>by
  refine bW λY9 y9=> ?_
  obtain ⟨o',e',⟨es,n,d⟩,_⟩:=frm a hf
  refine y9 ?_
  rw [e] at e';cases e';exact hmu (.inr (.inl ⟨es,n,d⟩))⟩
 haveI bs:(hideAll s.heap (kJ A)).StaysIn h':=λb o e=>hm.keeps b o (of_hideAll _ e)
 haveI st:eQ ι q.H (hideAll s.heap (kJ A)):=⟨λb o e=>get b o (R.st.keep b o e) (λhf=>by obtain ⟨_,_,_,_,n⟩:=frm b hf;rw [n] at e;cases e),R.st.len,R.st.nodup,R.st.fresh,
  λi a o e1 e2=>(R.st.obj i a o e1 e2).at (aam _) im λo' e'=>get a o' e' λhf=>by obtain ⟨_,_,_,n,_⟩:=frm a hf;exact n (aaE e1)⟩
 refine bW λY9 y9=> ?_
 obtain ⟨fenv,rest,f1,f2,_⟩:=ha.fr
 haveI hfm:fenv∈A.frames.getD []:=by rw [f1];exact .head _
 obtain ⟨_,L,oL,g1,_⟩:=R.fs fenv hfm
 obtain ⟨t,ht,htn,ht'⟩:=hm.there
 refine y9 ?_
 have cellEx:∀c o v,s.heap.get? c=some o->o.data= .cell v->(hideAll s.heap (kJ A)).get? c=some o:=λc o v e hd=>get c o e λhf=>by
  refine bW λY9 y9=> ?_
  obtain ⟨o',e',⟨es,n,d⟩,_⟩:=frm c hf
  refine y9 ?_
  rw [e] at e';cases e';rw [hd] at d;cases d
 refine ⟨aam _,⟨e,C,hideAll s.heap (kJ A),L,rfl,hc,f2.symm.trans g1,(.made bs ?_ ?_ _ _ (.ref t) ht rfl rfl rfl rfl rfl),st,?_,R.fs.stays hm.keeps,λa o e hW hf=>get a o e hf⟩,
  AB.of_stays hm.keeps,λa o e _=>⟨o.slots,hm.keeps a o e⟩,λ_ h=> .inl h,R.gens,R.os⟩
 ·cases q:(hideAll s.heap (kJ A)).get? e with
  | none=>rfl
  | some o=>have:=of_hideAll _ q;rw [hm.new] at this;cases this
 ·haveI:∀fs:List Env,(∀e∈fs,e∈A.frames.getD [])->h'.FunFrames (hideAll s.heap (kJ A)) fs:=λfs=>by
   induction fs with
   | nil=>intro _;trivial
   | cons f r ih =>
    intro hmem
    refine bW λY9 y9=> ?_
    obtain ⟨n1,L',o',n2,n3,⟨es,n,n4⟩,_⟩:=R.fs f (hmem f (.head _))
    refine y9 ?_
    exact ⟨n1,⟨L',o',n2,hideAll_none _ (fsn f (hmem f (.head _)) L' n2),hm.keeps _ _ n3,λvs q=>by rw [n4] at q;cases q⟩,ih λe he=>hmem e (.tail _ he)⟩
  exact this _ λe he=>he
 ·refine ⟨R.fr.kind,R.fr.glob,R.fr.blt,?_,?_,?_,R.fr.ndup,R.fr.dis,R.fr.fresh⟩
  ·obtain ⟨m,hn,hmm⟩:=R.fr.loc
   exact ⟨m,hn.keeps hm.keeps,λy v e e2=>let ⟨cv,a,b⟩:=hmm y v e e2;⟨cv,a,b.mono (aam _) im⟩⟩
  ·intro y v e e2
   refine bW λY9 y9=> ?_
   obtain ⟨c,o,cv,h1,h2,h3,h4⟩:=R.fr.cel y v e e2
   refine y9 ?_
   exact ⟨c,o,cv,h1,cellEx c o _ h2 h3,h3,h4.mono (aam _) im⟩
  ·intro p hp
   refine bW λY9 y9=> ?_
   obtain ⟨o,ov,h1,h2⟩:=R.fr.cells p hp
   refine y9 ?_
   exact ⟨o,ov,cellEx p.2 o _ h1 h2,h2⟩
noncomputable def gf {α:Type} (c:String):Cm α:=λq=> .exc c q
theorem eX (C:bL G) (hh:hq=true) {x:String} {a:Addr} {es:List Expr} {np cpos pos:Pos} {m:Cm (List V)} (hx:env.kindOf (Str.ofString x)=some .globalImplicit)
  (hv:nsIn G.K mainGlobals (Str.ofString x)=some (some (.ref a))) (hc:G.xcl x=some a) (ho:oZ G.K a=true) (hd:(Str.ofString x==("__debug__" : Str))=false) (h1:Bv hq k env es m) (hl:es.length<=5)
  (hp:(backTo cpos (starEach es env)).any (·.1)=false) (hlen:∀q vs q',m q= .ok vs q'->vs.length<=1000) :
  Ex hq k env (.Raise (some (.Call (.Name (Str.ofString x) np) es [] cpos)) none pos) (m.b λ_=>gf x):=by
 intro A ι q s ha R
 refine aU.of λQ E hQ=> ?_
 refine bW λY9 y9=> ?_
 obtain ⟨nm,qn,N,bs,bm,hdct,sx,sub,ab,col,dd,k0,k1,k2,k3,k5,mN,hC,_,hN,hni,T⟩:=IH C.X ho
 refine y9 ?_
 refine wpAny_Raise_call_subT (C:=a) (nm:=nm) (q:=qn) (N:=N) (bs:=bs) (bm:=bm) (hdct:=hdct) (sn:=sx) (sub:=sub) (ab:=ab) (col:=col) (dd:=dd) (k0:=k0) (k1:=k1) (k2:=k2) (k3:=k3) (k5:=k5) (mN:=mN)
  F.excBase_ValueError (T.hasType ∅) (ha.hd hh) hp hni (jU C R hx hv hd ⟨rfl,cV hp ?_⟩)
 have h1':=h1 cpos A ι q s ha R
 cases hm:m q with
 | stuck=>rw [cK hm] at hQ;exact hQ.elim
 | exc c q1=>rw [g0 hm] at hQ;rw [hm] at h1';exact h1' _ _ hQ
 | ok vs q1 =>
  rw [fZ hm] at hQ
  rw [hm] at h1'
  refine h1' _ _ λι1 cvs s1 P1 hv1=>⟨rfl,by haveI:=hlen q vs q1 hm;rw [hv1.length,sizeLine_eq];exact b9 0xb000003e8a0011 this,P1.rel.st.keep _ _ hC,hN.keeps P1.rel.st.keep,T.keeps P1.rel.st.keep,λh' e hme=> ?_⟩
  exact hQ ι1 (.ref e) _ (P1.transX (dw.made (tk:=s1.toks) ha P1.rel hc hme))
end
section
variable {hq:Bool} {k:Nat} {env:Env} {A:Around} {ι ι':List Addr} {q q':S} {s s':Shared} {H H':Hp} {h:Heap}
def o5 (e C:Addr) (h:Heap):Prop:= ∃B fs,yJ B fs e (.ref C) .none h
theorem o5.hn {e C:Addr} {h:Heap} (hl:o5 e C h):sE (A.mark (some (.ref e))) h:=λv hv=>by
 obtain ⟨B,fs,y⟩:=hl
 cases y with
 | mk k n f oe vs a0 T oT ts he hc hd h0 h2=>exact ⟨e,oe,C,vs,(Option.some.inj hv).symm,he,hc,hd,h2⟩
theorem cL.mark {e C:Addr} (hl:o5 e C s.heap) (R:cL A env ι q s):cL (A.mark (some (.ref e))) env ι q s:=⟨R.st,R.fr,R.fs,R.gens,R.os,hl.hn⟩
theorem aY.unmark {e:Option Value} (R:cL A env ι q s) (P:aY (A.mark e) env ι s ι' q' s'):aY A env ι s ι' q' s':=⟨P.pre,⟨P.rel.st,P.rel.fr,P.rel.fs,P.rel.gens,P.rel.os,R.hn.imm (R.imm P.kp)⟩,P.kp,P.new⟩
theorem dw.caught {c:String} {ev:Value} {Q:Unit->Shared->Prop} {E:Value->Shared->Prop} (ha:j9 hq k A env) (R:cL A env ι q s) (x:dw A env ι s c ι' q' s' ev)
  (hQ:∀e C s₃,ev= .ref e->G.xcl c=some C->o5 e C s₃.heap->aY A env ι s ι' q' s₃->Q () s₃) :
  wpAny G.M A (noteFrame ev env) (λ_ s₂=>wpAny G.M A (setFlight ev none) Q E s₂) E s':=by
 refine x.noted ha λe C B L s₂ he hf hc y g5 g6 g7 g8 z=> ?_
 subst he
 refine wC y λh₃ w up=> ?_
 have kk:B.StaysIn h₃:=by cases w with | mk k=>exact k
 have z':=z.at rfl hc hf (.fly _ w (.inl rfl)) g5 g6 g7 g8 up
 exact hQ e C _ rfl hc ⟨B,_,w⟩ ⟨z'.pre,⟨g5.stays kk,(g6.slots up).stays kk λ_ _ e=>e,g7.slots up,z'.gens,z'.os,R.hn.imm (R.imm' z'.up)⟩,⟨z'.size,z'.up,λa o e hW hf=>kk _ _ (g8 a o e hW hf)⟩,z'.new⟩
theorem xQ {e C:Addr} {Q:Unit->Shared->Prop} {E:Value->Shared->Prop} (hl:o5 e C s.heap) (hQ:Q () s):wpAny G.M A (setFlight (.ref e) none) Q E s:=by
 obtain ⟨B,fs,y⟩:=hl
 cases y with
 | mk k n f oe vs a0 T oT ts h1 hc h3 _ _ h4 nT Te h5 h6 h7 =>
 unfold setFlight
 refine wpAny_bind (wpAny_field h1 h3 h4 ?_)
 rw [if_pos (show (Value.ref T != Value.none)=true from by simp)]
 refine wpAny_setField h5 h6 (Array.getElem?_eq_some_iff.mp h7).1 ?_
 show Q () { s with heap:=s.heap.update T (Obj.mapFields (·.setIfInBounds 3 .none)) }
 rw [Heap.update_setField_same s.heap T oT ts 3 .none h5 h6 h7]
 exact hQ
def yK (k:Nat) (env:Env) (hs:List ExceptHandler) (c:String) (m:Cm Fl):Prop :=
 ∀A ι q s e C,j9 false k A env->cL A env ι q s->G.xcl c=some C->o5 e C s.heap ->
  match m q with
  | .ok f q'=> ∀Q E,(∀ι' b s',aY A env ι s ι' q' s'->wn ι' s'.heap f b->Q b s')->wpAny G.M A (handleBy (.ref e) env hs) Q E s
  | _=>True
theorem HO {hs:List ExceptHandler} {c:String}:yK k env hs c .stk:=λA ι q s e C _ _ _ _=>trivial
noncomputable def Du (m:Cm Fl) (sel:String->Cm Fl):Cm Fl:=λq=>match m q with
 | .ok f q'=> .ok f q'
 | .exc c q'=>(match sel c q' with | .ok f q''=> .ok f q'' | _=> .stuck)
 | .stuck=> .stuck
theorem j9.any (ha:j9 hq k A env):j9 false k A env:=⟨⟨(λh=>by cases h),ha.depth,ha.units⟩,ha.fr⟩
theorem I1 {body:List Stmt} {h0:ExceptHandler} {hs:List ExceptHandler} {pos:Pos} {m:Cm Fl} {sel:String->Cm Fl} (h1:DL hq k env body m) (h2:∀c,yK k env (h0::hs) c (sel c)) :
  Ex hq k env (.Try body (h0::hs) [] [] pos) (Du m sel):=by
 intro A ι q s ha R
 refine aU.of λQ E hQ=>wpAny_Try_except ?_
 have h1':=h1 A ι q s ha R
 unfold Du at hQ
 cases hm:m q with
 | stuck=>rw [hm] at hQ;exact hQ.elim
 | ok f q1 =>
  rw [hm] at hQ h1'
  refine h1' _ _ λι1 cf s1 P1 hf=> ?_
  have:=hQ ι1 cf s1 P1 hf
  cases f with
  | next=>rw [show cf= .next from hf] at this ⊢;exact wpAny_execs_nil this
  | ret v=>obtain ⟨cv,rfl,_⟩:=hf;exact this
 | exc c q1 =>
  rw [hm] at hQ h1'
  dsimp only at hQ
  refine h1' _ _ λι1 ev s1 x=> ?_
  refine x.caught ha R λe C s3 he hc hl P=> ?_
  subst he
  haveI h2':=h2 c A ι1 q1 s3 e C ha.any P.rel hc hl
  cases hs:sel c q1 with
  | stuck=>rw [hs] at hQ;exact hQ.elim
  | exc c q2=>rw [hs] at hQ;exact hQ.elim
  | ok f q2 =>
   rw [hs] at hQ h2'
   exact h2' Q E λι2 b s4 P4 hf=>hQ ι2 b s4 (P.trans P4) hf
theorem EE {e:Value} (ha:j9 false k A env):j9 false k (A.mark (some e)) env:=⟨⟨(λh=>by cases h),ha.depth,ha.units⟩,ha.fr⟩
theorem pN (C:bL G) {e a b:Addr} {r:Bool} (R:cL A env ι q s) (hl:o5 e a s.heap) (hx:exmOne G.K (.ref a) (.ref b)=some r) {Q:Bool->Shared->Prop} {E:Value->Shared->Prop} (hQ:Q r s) :
  wpAny G.M A (excMatches (.ref e) (.ref b)) Q E s:=by
 obtain ⟨B,fs,y⟩:=hl
 cases y with
 | mk k n f oe vs a0 T oT ts h1 h2 =>
 haveI X:=C.X.keeps R.st.keep
 refine exm_one (M:=G.M) (h:=s.heap) X ?_ hx A Q E s (λ_ _ e=>e) hQ
 rw [<- h2]
 exact (Looks.ld h1).andThen .now
theorem Hn (C:bL G) {x c:String} {np pos:Pos} {a b:Addr} {name:Option Str} {b₀:Stmt} {suite:List Stmt} {rest:List ExceptHandler} {m:Cm Fl} (hx:env.kindOf (Str.ofString x)=some .globalImplicit)
  (hv:nsIn G.K mainGlobals (Str.ofString x)=some (some (.ref b))) (hd:(Str.ofString x==("__debug__" : Str))=false) (hc:G.xcl c=some a) (hm:exmOne G.K (.ref a) (.ref b)=some false) (h1:yK k env rest c m) :
  yK k env (.ExceptHandler (some (.Name (Str.ofString x) np)) name (b₀::suite) pos::rest) c m:=by
 intro A ι q s e a' ha R hc' hl
 obtain rfl:a=a':=Option.some.inj (hc.symm.trans hc')
 haveI h1':=h1 A ι q s e a ha R hc' hl
 cases hmq:m q with
 | stuck=>trivial
 | exc c q1=>trivial
 | ok f q1 =>
  rw [hmq] at h1'
  intro Q E hQ
  have R':cL (A.mark (some (.ref e))) env ι q s:=R.mark hl
  refine wpAny_handleBy_cons (codeAny_handlers_test (jU C R' hx hv hd (pN C R' hl hm ?_))) (by intro q;cases q)
  exact h1' Q E hQ
theorem GY (C:bL G) {x c:String} {np pos:Pos} {a b:Addr} {b₀:Stmt} {suite:List Stmt} {rest:List ExceptHandler} {m:Cm Fl} (hx:env.kindOf (Str.ofString x)=some .globalImplicit)
  (hv:nsIn G.K mainGlobals (Str.ofString x)=some (some (.ref b))) (hd:(Str.ofString x==("__debug__" : Str))=false) (hc:G.xcl c=some a) (hm:exmOne G.K (.ref a) (.ref b)=some true) (h1:DL false k env (b₀::suite) m) :
  yK k env (.ExceptHandler (some (.Name (Str.ofString x) np)) none (b₀::suite) pos::rest) c m:=by
 intro A ι q s e a' ha R hc' hl
 obtain rfl:a=a':=Option.some.inj (hc.symm.trans hc')
 have R':cL (A.mark (some (.ref e))) env ι q s:=R.mark hl
 haveI h1':=h1 (A.mark (some (.ref e))) ι q s (EE ha) R'
 cases hmq:m q with
 | stuck=>trivial
 | exc c q1=>trivial
 | ok f q1 =>
  rw [hmq] at h1'
  intro Q E hQ
  refine wpAny_handleBy_cons (codeAny_handlers_test (jU C R' hx hv hd (pN C R' hl hm ?_))) (by intro q;cases q)
  refine codeAny_handlers_suite (xQ hl ?_)
  exact h1' _ _ λι' b s' P hf=>hQ ι' b s' (P.unmark R) hf
end
noncomputable def a9:List String->List V->bp
 | p::ps,v::vs=>upd (a9 ps vs) p v
 | _,_=>λ_=>none
noncomputable def gY (ps:List String) (m:Cm Fl):Fc:=λvs H=>if vs.length=ps.length then (match m ⟨a9 ps vs,H⟩ with
 | .ok (.ret v) q=> .ok v q.H
 | .ok .next q=> .ok .none q.H
 | .exc c q=> .exc c q.H
 | .stuck=> .stuck) else .stuck
section
variable {hq:Bool} {k:Nat} {env:Env} {A:Around} {ι ι':List Addr} {q q':S} {s s':Shared} {H H':Hp} {h:Heap}
noncomputable def sI (ps:List String) (vs:List Value):List (Str×Value):=(ps.map Str.ofString).zip vs
theorem o6 {kindOf:Str->Option NameKind}:∀(ps:List String) (vs:List V) (cvs:List Value) (m:Str->Option Value),ps.Nodup->aO ι h vs cvs->vs.length=ps.length ->
  (∀x v,a9 ps vs x=some v->kindOf (Str.ofString x)=some .local-> ∃cv,bindL kindOf (sI ps cvs) m (Str.ofString x)=some cv/\aM ι h v cv) /\
  (∀x v,a9 ps vs x=some v->kindOf (Str.ofString x)≠some .local-> ∃cv,bindC kindOf (sI ps cvs) m (Str.ofString x)=some cv/\aM ι h v cv) /\
  (∀x,x∉ps.map Str.ofString->bindL kindOf (sI ps cvs) m x=m x/\bindC kindOf (sI ps cvs) m x=m x)/\ ∀x v,a9 ps vs x=some v->x∈ps
 | [],vs,cvs,m,_,hv,hl=>by
  haveI:vs=[]:=List.length_eq_zero_iff.mp hl
  subst this
  exact ⟨λx v e=>by simp [a9] at e,λx v e=>by simp [a9] at e,λx _=>⟨rfl,rfl⟩,λx v e=>by simp [a9] at e⟩
 | p::ps,[],cvs,m,_,hv,hl=>by simp at hl
 | p::ps,v::vs,cvs,m,hn,z5,hl=>by
  obtain ⟨cv,cvs',e,r1,r2⟩:=z5
  subst e
  rw [abd] at hn
  haveI hl':vs.length=ps.length:=by simpa using hl
  have hp:Str.ofString p∉ps.map Str.ofString:=λhm=>by
   obtain ⟨y,hy,e⟩:=aaf.mp hm
   exact hn.1 (fQ e▸hy)
  have step:sI (p::ps) (cv::cvs')=(Str.ofString p,cv)::sI ps cvs':=rfl
  have hin:∀x v',a9 (p::ps) (v::vs) x=some v'->(x=p/\v'=v)\/(x≠p/\a9 ps vs x=some v'):=λx v' e=>ny e
  have B:=λm'=>o6 (kindOf:=kindOf) ps vs cvs' m' hn.2 r2 hl'
  refine ⟨λx v' e1 e2=> ?_,λx v' e1 e2=> ?_,λx hx=> ?_,λx v' e1=> ?_⟩
  ·rcases hin x v' e1 with ⟨rfl,rfl⟩ | ⟨hne,e⟩
   ·rw [step];unfold bindL;rw [if_pos e2,((B _).2.2.1 _ hp).1];exact ⟨cv,if_pos rfl,r1⟩
   ·rw [step];unfold bindL;exact (B _).1 x v' e e2
  ·rcases hin x v' e1 with ⟨rfl,rfl⟩ | ⟨hne,e⟩
   ·rw [step];unfold bindC;rw [if_neg e2,((B _).2.2.1 _ hp).2];exact ⟨cv,if_pos rfl,r1⟩
   ·rw [step];unfold bindC;exact (B _).2.1 x v' e e2
  ·rw [aaq,aai,not_or] at hx
   rw [step]
   unfold bindL bindC
   refine ⟨((B _).2.2.1 x hx.2).1.trans ?_,((B _).2.2.1 x hx.2).2.trans ?_⟩
   ·split<;>first | exact if_neg hx.1 | rfl
   ·split<;>first | exact if_neg hx.1 | rfl
  ·rcases hin x v' e1 with ⟨rfl,rfl⟩ | ⟨hne,e⟩
   ·exact .head _
   ·exact .tail _ ((B (λ_=>none)).2.2.2 x v' e)
theorem yJ.tail {B:Heap} {fs:List Env} {e:Addr} {C fl:Value} {h:Heap} {en:Env} (x:yJ B (en::fs) e C fl h):yJ B fs e C fl h:=by
 cases x with
 | mk k n f oe vs a0 T oT ts he hc hd h0 h2 h1 nT Te hT dT h3=>exact ⟨k,n,f.2.2,oe,vs,a0,T,oT,ts,he,hc,hd,h0,h2,h1,nT,Te,hT,dT,h3⟩
theorem dw.leave {c:String} {ev:Value} {outer:List Env} {R:Result->Shared->Prop} {E:Value->Shared->Prop} {s₁:Shared} {fA:Around} (hf:fA.frames=some (env::outer)) (hA:A.frames=some outer) (x:dw fA env ι s₁ c ι' q' s' ev)
  (st:s.heap.StaysIn s₁.heap) (own0:∀a∈own env,s.heap.get? a=none) (frm:env.frame=some env.locals)
  (hR:∀s'',o3 A ι s c ι' q'.H s'' ev->R (.error ev) s''):wpAny G.M fA (leaving env ev) (λ_ s''=>R (.error ev) s'') E s':=by
 refine bW λY9 y9=> ?_
 obtain ⟨e,C,B,L,rfl,h2,h3,fl,h5,h6,h7,h8⟩:=x.ex
 refine y9 ?_
 have hfs:fA.frames.getD []=env::outer:=by rw [hf];rfl
 have hAs:A.frames.getD []=outer:=by rw [hA];rfl
 haveI hL:L=env.locals:=Option.some.inj (h3.symm.trans frm)
 have hfr:kJ fA=env.locals::kJ A:=by
  show (fA.frames.getD []).filterMap (·.frame)=_
  rw [hfs,List.filterMap_cons,frm]
  show _=env.locals::(A.frames.getD []).filterMap (·.frame)
  rw [hAs]
 rw [hfs] at fl h7
 have nf:∀a o,s.heap.get? a=some o->a∉ι->a∉kJ A->a∉own env++ι/\a∉kJ fA:=λa o e hi hfa=>by
  have ho:a∉own env:=λho=>by rw [own0 a ho] at e;cases e
  exact ⟨λhm=>(aap.mp hm).elim ho hi,λhm=>by
   rw [hfr] at hm
   rcases aai.mp hm with rfl | hm
   ·exact ho (.head _)
   ·exact hfa hm⟩
 have exB:∀a o,s.heap.get? a=some o->a∉ι->a∉kJ A->B.get? a=some o:=λa o e hi hfa=>h8 a o (st a o e) (nf a o e hi hfa).1 (nf a o e hi hfa).2
 haveI iG:∀h'',yJ B outer e (.ref C) .none h''->s'.heap.UpToSlots h''->R (.error (.ref e)) { s' with heap:=h'' }:=λh'' fw up=>by
  have kk:B.StaysIn h'':=by cases fw with | mk k=>exact k
  have fs'':nY outer ι' h'':=λenv' he=>(h7.slots up) env' (.tail _ he)
  refine hR _ ⟨x.pre,⟨e,C,B,rfl,h2,by rw [hAs];exact fw,h5,by rw [hAs];exact fs'',exB⟩,λa o ea=> ?_,λa o ea hi=> ?_,λa ha=> ?_,x.gens,x.os⟩
  ·by_cases h2:a∈ι
   ·refine bW λY9 y9=> ?_
    obtain ⟨i,hi⟩:=List.mem_iff_getElem?.mp h2
    have hi':=getElem?_prefix x.pre hi
    obtain ⟨oa,hoa⟩:∃oa,q'.H[i]? = some oa:=⟨_,aal (h5.len▸(aaa.mp hi').1)⟩
    obtain ⟨o',e'⟩:=(h5.obj i a oa hi' hoa).there
    refine y9 ?_
    exact ⟨o',kk _ _ e'⟩
   ·by_cases h3:a∈kJ A
    ·obtain ⟨o',e',_⟩:=dW (A:=A) (by rw [hAs];exact fs'') h3;exact ⟨o',e'⟩
    ·exact ⟨o,kk _ _ (exB a o ea h2 h3)⟩
  ·by_cases h3:a∈kJ A
   ·haveI ho:a∉own env:=λho=>by rw [own0 a ho] at ea;cases ea
    refine bW λY9 y9=> ?_
    obtain ⟨sl,e1⟩:=x.up a o (st a o ea) λhm=>(aap.mp hm).elim ho hi
    obtain ⟨o',e',es,n,d⟩:=dW (A:=A) (ι:=ι') (h:=s'.heap) (λenv' he=>h7 env' (by rw [hAs] at he;exact .tail _ he)) h3
    rw [e1] at e';cases e'
    obtain ⟨sl2,e2⟩:=up a _ e1 λvs q=>by rw [d] at q;cases q
    refine y9 ?_
    exact ⟨sl2,e2⟩
   ·exact ⟨o.slots,kk _ _ (exB a o ea hi h3)⟩
  ·rcases x.new a ha with h1 | h1
   ·exact .inl h1
   ·refine .inr ?_
    cases e:s.heap.get? a with
    | none=>rfl
    | some o=>rw [st a o e] at h1;cases h1
 have down:∀h'',yJ B (env::outer) e (.ref C) (rawInt L) h''->s'.heap.UpToSlots h''->wpAny G.M fA (setFlight (.ref e) none) (λ_ s''=>R (.error (.ref e)) s'') E { s' with heap:=h'' }:=λh'' y u =>
  wC (s:={ s' with heap:=h'' }) y λh3 w u2=>iG h3 w.tail (u.trans u2)
 unfold leaving
 cases fl with
 | made k n f oe vs a0 he hc hd h0 h1 h2=>exact wpAny_bind (wB hf f h3 he k n hd h0 h1 h2 λh' y u=>down h' (hc▸y) u)
 | fly fl y hfl=>exact wpAny_bind (zh hf h3 y hfl down)
structure Bw (K:Frag) (f:Addr) (fd:FuncData) (ps:List String) (body:List Stmt):Prop where
 at':∃oc od sl,K.lookup f=some ⟨oc,od,.func fd,sl⟩
 code:codeIn K fd.code fd.qualname=true
 body:fd.body= .stmts body
 clo:fd.closure=[]
 glob:fd.globals=mainGlobals
 blt:fd.builtins=builtinsNs
 bind:∀vals,vals.length=ps.length->bindArgs fd ⟨vals,[]⟩=pure (sI ps vals)
 kinds:∀x∈ps,fd.scope.names.lookup (Str.ofString x)=some .local\/fd.scope.names.lookup (Str.ofString x)=some .cell
 nd:ps.Nodup
 ndc:((cellsFrom 0 fd.scope.names []).map (·.1)).Nodup
 co:fd.scope.isCoroutine=false
 gen:fd.scope.isGenerator=false
 kd:fd.scope.kind= .function
theorem ck.of (C:bL G) {f:Addr} {fd:FuncData} {ps:List String} {body:List Stmt} {m:Cm Fl} (Z:Bw G.K f fd ps body) (hm:∀L,DL hq k (callEnvC fd L f) body m):ck hq (k+1) f (gY ps m):=by
 intro A ι H s vs cvs ha ⟨fs,hfs⟩ S0 F0 hgens hos hn0 hv
 have hfs':A.frames.getD []=fs:=by rw [hfs];rfl
 unfold gY
 by_cases hlen:vs.length=ps.length
 ·rw [if_pos hlen]
  haveI hlc:cvs.length=ps.length:=hv.length.trans hlen
  refine bW λY9 y9=> ?_
  obtain ⟨oc,od,sl,hK⟩:=Z.at'
  refine y9 ?_
  have X:=C.X.keeps S0.keep
  have key:∀R:Result->Shared->Prop,(∀s₁,InCallC s (callEnvC fd s.heap.objs.size f).locals (bindL (callEnvC fd s.heap.objs.size f).kindOf (sI ps cvs) λ_=>none) (callEnvC fd s.heap.objs.size f).cells
    (bindC (callEnvC fd s.heap.objs.size f).kindOf (sI ps cvs) λ_=>none) s₁ ->
   wpAny (model G.prog G.w) (A.deeper (callEnvC fd s.heap.objs.size f)) (execs body (callEnvC fd s.heap.objs.size f)) (λf s'=>R (.ok (.ret (match f with | .ret v=>v | _=> .none))) s')
    (λe s'=>wpAny (model G.prog G.w) (A.deeper (callEnvC fd s.heap.objs.size f)) (leaving (callEnvC fd s.heap.objs.size f) e) (λ_ s''=>R (.error e) s'') (λe' s''=>R (.error e') s'') s') s₁) ->
    codeAny G.M A (.call (.ref f) ⟨cvs,[]⟩) R s:=λR hh=>by
   refine codeAny_call_cells (fd:=fd) (body:=body) (by have:=ha.depth;show A.depth<1000;exact cu 0x3e8a01000320a191c03d0c011 this) (X _ _ hK) rfl (C.lim.keeps S0.keep) (codeRec_of X Z.code) Z.body (Z.bind cvs hlc) Z.clo (λx hx=> ?_) hh Z.co Z.gen Z.kd
   have:x.1∈ps.map Str.ofString:=(List.of_mem_zip hx).1
   obtain ⟨y,hy,e⟩:=aaf.mp this
   rw [<- e]
   rcases Z.kinds y hy with h1 | h1
   ·exact .inl h1
   ·exact .inr ⟨h1,cellsFrom_some _ _ _ (.inl h1)⟩
  have start:∀s₁,InCallC s (callEnvC fd s.heap.objs.size f).locals (bindL (callEnvC fd s.heap.objs.size f).kindOf (sI ps cvs) λ_=>none) (callEnvC fd s.heap.objs.size f).cells
    (bindC (callEnvC fd s.heap.objs.size f).kindOf (sI ps cvs) λ_=>none) s₁ ->
    j9 hq k (A.deeper (callEnvC fd s.heap.objs.size f)) (callEnvC fd s.heap.objs.size f)/\cL (A.deeper (callEnvC fd s.heap.objs.size f)) (callEnvC fd s.heap.objs.size f) ι ⟨a9 ps vs,H⟩ s₁/\s.heap.StaysIn s₁.heap /\
     ∀a∈own (callEnvC fd s.heap.objs.size f),s.heap.get? a=none:=λs₁ I=>by
   have st:s.heap.StaysIn s₁.heap:=I.toInCall.keep
   have ab:∀a∈own (callEnvC fd s.heap.objs.size f),s.heap.get? a=none:=λa ha=>by
    refine aaH ?_
    rcases aai.mp ha with rfl | ha
    ·exact aaK _
    ·obtain ⟨p,hp,rfl⟩:=aaf.mp ha
     exact Nat.le_of_lt (I.above p.1 p.2 hp)
   have dis:∀a∈own (callEnvC fd s.heap.objs.size f),a∉ι/\G.hB.get? a=none:=λa ha=>by
    have n:=ab a ha
    refine ⟨λhi=> ?_,?_⟩
    ·obtain ⟨o,e,_⟩:=eQ.mut (q:=⟨λ_=>none,H⟩) S0 hi;rw [n] at e;cases e
    ·cases e:G.hB.get? a with
     | none=>rfl
     | some o=>rw [S0.keep a o e] at n;cases n
   refine bW λY9 y9=> ?_
   obtain ⟨hh,tk,es⟩:=I.toInCall.same
   have hv1:=hv.mono (aam ι) (oi.of_stays st)
   obtain ⟨bl,_,_,mem⟩:=o6 (kindOf:=(callEnvC fd s.heap.objs.size f).kindOf) ps vs cvs (λ_=>none) Z.nd hv1 hlen
   obtain ⟨_,bc,_,_⟩:=o6 (kindOf:=(callEnvC fd s.heap.objs.size f).kindOf) ps vs cvs (λ_=>none) Z.nd hv1 hlen
   refine y9 ?_
   haveI cellAt:∀p∈(callEnvC fd s.heap.objs.size f).cells,(callEnvC fd s.heap.objs.size f).cells.lookup p.1=some p.2:=λp hp=>by
    refine lookup_of_mem_nodup ?_ hp
    show ((cellsFrom (s.heap.objs.size+1) fd.scope.names []).map (·.1)).Nodup
    rw [cellsFrom_names fd.scope.names (s.heap.objs.size+1) 0 [] [] rfl]
    exact Z.ndc
   refine ⟨⟨⟨ha.hd,by have:=ha.depth;show A.depth+1+3*k<=800;exact cu 0x320a103d190cc0000320a191c03d0c011 this,by have:=ha.units;show A.units+3+50*k<=9000;exact cu 0x2328a132d390cc0002328a191c32d0c011 this⟩,?_⟩,⟨S0.stays st,?_,?_,?_,?_,hn0.imm (.of_stays st)⟩,st,ab⟩
   ·exact ⟨callEnvC fd s.heap.objs.size f,fs,Around.frames_deeper hfs,rfl,Z.gen,Z.co,Z.blt,Z.glob⟩
   ·refine ⟨Z.kd,Z.glob,Z.blt,⟨_,I.toInCall.ns,bl⟩,λx v e1 e2=> ?_,λp hp=> ?_,?_,λa ha=>(dis a ha).1,λa ha=>(dis a ha).2⟩
    ·refine bW λY9 y9=> ?_
     obtain ⟨cv,c1,c2⟩:=bc x v e1 (by rcases e2 with e2 | e2<;>rw [e2]<;>decide)
     haveI hk:fd.scope.names.lookup (Str.ofString x)=some .cell:=by
      rcases Z.kinds x (mem x v e1) with h1 | h1
      ·haveI e3:(callEnvC fd s.heap.objs.size f).kindOf (Str.ofString x)=some .local:=h1
       rw [e3] at e2;rcases e2 with e2 | e2<;>cases e2
      ·exact h1
     obtain ⟨c,hc⟩:=aaT.mp (cellsFrom_some fd.scope.names (s.heap.objs.size+1) [] (.inl hk))
     obtain ⟨o,ho,hd⟩:=I.cell _ _ hc
     refine y9 ?_
     rw [c1] at hd
     exact ⟨c,o,cv,hc,ho,hd,c2⟩
    ·obtain ⟨o,ho,hd⟩:=I.cell _ _ (cellAt p hp)
     exact ⟨o,_,ho,hd⟩
    ·exact aaP.mpr I.apart
   ·show nY ((A.deeper (callEnvC fd s.heap.objs.size f)).frames.getD []) ι s₁.heap
    rw [Around.frames_deeper hfs]
    intro env' he
    rcases aai.mp he with rfl | he
    ·refine bW λY9 y9=> ?_
     obtain ⟨o,es',ep,ho,hd,_⟩:=I.toInCall.ns
     refine y9 ?_
     exact ⟨by rw [show (callEnvC fd s.heap.objs.size f).scope.kind= .function from Z.kd];decide,_,o,rfl,ho,⟨es',ep,hd⟩,(dis _ (.head _)).1,(dis _ (.head _)).2⟩
    ·rw [hfs'] at F0;exact F0.stays st env' he
   ·rw [es];exact hgens
   ·rw [es];exact hos
  have back:∀ {s₁ ι' q' s'},aY (A.deeper (callEnvC fd s.heap.objs.size f)) (callEnvC fd s.heap.objs.size f) ι s₁ ι' q' s'->s.heap.StaysIn s₁.heap->(∀a∈own (callEnvC fd s.heap.objs.size f),s.heap.get? a=none) ->
    tG A ι s ι' q'.H s':=λ{s₁ ι' q' s'} P st ab=>by
   have nf:∀a o,s.heap.get? a=some o->a∉ι->a∉own (callEnvC fd s.heap.objs.size f)++ι:=λa o e hi hm=>(aap.mp hm).elim (λho=>by rw [ab a ho] at e;cases e) hi
   refine ⟨P.pre,P.rel.st,λenv' he=> ?_,⟨λa o e=>P.kp.size a o (st a o e),λa o e hi=>P.kp.up a o (st a o e) (nf a o e hi),λa o e hi hf=>P.kp.ex a o (st a o e) (nf a o e hi) λhm=> ?_⟩,λa ha=> ?_,P.rel.gens,P.rel.os⟩
   ·have:=P.rel.fs
    rw [Around.frames_deeper hfs] at this
    rw [hfs'] at he
    exact this env' (.tail _ he)
   ·unfold kJ at hm hf
    rw [Around.frames_deeper hfs] at hm
    rw [hfs'] at hf
    rcases aai.mp hm with rfl | hm
    ·have:s.heap.get? s.heap.objs.size=some o:=e
     rw [aaH (aaK _)] at this;cases this
    ·exact hf hm
   ·rcases P.new a ha with h1 | h1
    ·exact .inl h1
    ·refine .inr ?_
     cases e:s.heap.get? a with
     | none=>rfl
     | some o=>rw [st a o e] at h1;cases h1
  cases hmm:m ⟨a9 ps vs,H⟩ with
  | stuck=>trivial
  | ok fl q1 =>
   cases fl with
   | next =>
    intro R hR
    refine key R λs₁ I=> ?_
    refine bW λY9 y9=> ?_
    obtain ⟨ha',R',st,ab⟩:=start s₁ I
    refine y9 ?_
    haveI h1:=hm s.heap.objs.size _ _ _ _ ha' R'
    rw [hmm] at h1
    refine h1 _ _ λι' cf s' P hf=> ?_
    rw [show cf= .next from hf]
    exact hR ι' .none s' (back P st ab) rfl
   | ret v =>
    intro R hR
    refine key R λs₁ I=> ?_
    refine bW λY9 y9=> ?_
    obtain ⟨ha',R',st,ab⟩:=start s₁ I
    refine y9 ?_
    haveI h1:=hm s.heap.objs.size _ _ _ _ ha' R'
    rw [hmm] at h1
    refine h1 _ _ λι' cf s' P hf=> ?_
    obtain ⟨cv,rfl,hv⟩:=hf
    exact hR ι' cv s' (back P st ab) hv
  | exc c q1 =>
   intro R hR
   refine key R λs₁ I=> ?_
   refine bW λY9 y9=> ?_
   obtain ⟨ha',R',st,ab⟩:=start s₁ I
   refine y9 ?_
   haveI h1:=hm s.heap.objs.size _ _ _ _ ha' R'
   rw [hmm] at h1
   refine h1 _ _ λι' ev s' x=> ?_
   exact x.leave (A:=A) (Around.frames_deeper hfs) hfs st ab rfl λs'' y=>hR ι' ev s'' y
 ·rw [if_neg hlen];trivial
end
theorem HF {d k0 k:Nat} (h:d+3*k<=800) (q:k0<k):d+1+3*k0<=800:=by
 rw [Nat.add_assoc];exact aao (Nat.add_le_add_left (aao (Nat.le_of_eq (Nat.add_comm _ _)) (aao (Nat.add_le_add_left (show 1<=3 by decide) _) (Nat.mul_le_mul_left 3 (Nat.succ_le_of_lt q)))) d) h
theorem Ir {d k0 k:Nat} (h:d+50*k<=9000) (q:k0<k):d+(1+3*0)+50*k0<=9000:=by
 rw [Nat.add_assoc];exact aao (Nat.add_le_add_left (aao (Nat.le_of_eq (Nat.add_comm _ _)) (aao (Nat.add_le_add_left (show 1<=50 by decide) _) (Nat.mul_le_mul_left 50 (Nat.succ_le_of_lt q)))) d) h
section
variable {hq:Bool} {k:Nat} {env:Env} {A:Around} {ι ι':List Addr} {q q':S} {s s':Shared} {H H':Hp} {h:Heap}
noncomputable def oM (c:String) (F:Fc) (vs:List V):Cm V:=λq=>match F (.inst c q.H.length::vs) (q.H++[.flds []]) with
 | .ok .none H'=> .ok (.inst c q.H.length) ⟨q.l,H'⟩
 | .ok _ _=> .stuck
 | .exc c' H'=> .exc c' ⟨q.l,H'⟩
 | .stuck=> .stuck
theorem aM.none_of {cv:Value} (x:aM ι h .none cv):cv= .none:=x
theorem tG.frames {A':Around} (e:A'.frames=A.frames) (x:tG A' ι s ι' H' s'):tG A ι s ι' H' s' :=
 ⟨x.pre,x.st,by rw [<- e];exact x.fs,by haveI:=x.kp;unfold kJ at *;rw [<- e];exact this,x.new,x.gens,x.os⟩
theorem o3.frames {A':Around} {c:String} {ev:Value} (e:A'.frames=A.frames) (x:o3 A' ι s c ι' H' s' ev):o3 A ι s c ι' H' s' ev :=
 ⟨x.pre,by haveI:=x.ex;unfold kJ at *;rw [<- e];exact this,x.size,x.up,x.new,x.gens,x.os⟩
theorem Hu (C:bL G) {c:String} {a fI:Addr} {F:Fc} {k0:Nat} (hc:G.cls c=some a) (hm:makesIn G.K a=true) (hi:findIn G.K (.ref a) "__init__" = some (some (.ref fI))) (hf:typeIn G.K (.ref fI)=some (.type "function"))
  (hF:ck hq k0 fI F) (hk:k0<k) (ha:j9 hq k A env) (R:cL A env ι q s) {vs:List V} {cvs:List Value} (hv:aO ι s.heap vs cvs) :
  aU A env ι s (oM c F vs q) (aM) (λQ E s=>codeAny G.M A (.call (.ref a) ⟨cvs,[]⟩) (An Q E) s):=by
 haveI X:=C.X.keeps R.st.keep
 have st:s.heap.StaysIn ((s.heap.push emptyDict).push (instObj a s.heap.objs.size)):=λb o e=>aak _ (aak _ e)
 have nw:s.heap.get? s.heap.objs.size=none:=aaH (aaK _)
 have gd:((s.heap.push emptyDict).push (instObj a s.heap.objs.size)).get? s.heap.objs.size=some emptyDict:=by heap_get
 have gi:((s.heap.push emptyDict).push (instObj a s.heap.objs.size)).get? (s.heap.objs.size+1)=some (instObj a s.heap.objs.size):=by heap_get
 have P1:aY A env ι s (ι++[s.heap.objs.size]) { q with H:=q.H++[.flds []] } { s with heap:=(s.heap.push emptyDict).push (instObj a s.heap.objs.size),toks:=s.toks } :=
  aY.alloc R st nw ⟨[],0,gd,rfl⟩
 have vi:∀ {ι' h'},(ι++[s.heap.objs.size])<+:ι'->oi ((s.heap.push emptyDict).push (instObj a s.heap.objs.size)) h'->aM ι' h' (.inst c q.H.length) (.ref (s.heap.objs.size+1)):=λ{ι' h'} hp him =>
  aM.mono (v:= .inst c q.H.length) hp him ⟨s.heap.objs.size,s.heap.objs.size+1,a,_,by rw [<- R.st.len];simp,hc,rfl,gi,rfl,rfl,rfl⟩
 have hu:(A.under (.builtin "type.__call__" ⟨.ref a::cvs,[]⟩)).frames=A.frames:=rfl
 have hr:=hF (A.under (.builtin "type.__call__" ⟨.ref a::cvs,[]⟩)) (ι++[s.heap.objs.size]) (q.H++[.flds []]) { s with heap:=(s.heap.push emptyDict).push (instObj a s.heap.objs.size),toks:=s.toks } (.inst c q.H.length::vs) (.ref (s.heap.objs.size+1)::cvs)
  ⟨ha.hd,HF ha.depth hk,Ir ha.units hk⟩ (let ⟨fenv,rest,h1,_⟩:=ha.fr;⟨_,h1⟩) P1.rel.st P1.rel.fs P1.rel.gens P1.rel.os P1.rel.hn
  (oY (vi (aam _) (.refl _)) (hv.mono P1.pre (oi.of_stays st)))
 have core:∀R':Result->Shared->Prop,codeAny G.M (A.under (.builtin "type.__call__" ⟨.ref a::cvs,[]⟩)) (.call (.ref fI) ⟨.ref (s.heap.objs.size+1)::cvs,[]⟩) (InitBack (s.heap.objs.size+1) R') { s with heap:=(s.heap.push emptyDict).push (instObj a s.heap.objs.size),toks:=s.toks } ->
   codeAny G.M A (.call (.ref a) ⟨cvs,[]⟩) R' s:=λR' z=>by
  obtain ⟨hh,g,d,t,os⟩:=s
  exact make_core (makes_of X hm) (looks_findIn X hi) (λself=>bind_fn X self hf) (.inl rfl) z
 unfold oM
 cases hFv:F (.inst c q.H.length::vs) (q.H++[.flds []]) with
 | stuck=>trivial
 | ok v H' =>
  rw [hFv] at hr
  cases v<;>try trivial
  intro Q E hQ
  refine core _ (hr _ λι' cv s' c r=> ?_)
  rw [aM.none_of r]
  have P2:=aY.ofC P1.rel (tG.frames hu c)
  exact ⟨rfl,hQ ι' _ s' (P1.trans P2) (vi P2.pre (P1.rel.imm P2.kp))⟩
 | exc c' H' =>
  rw [hFv] at hr
  intro Q E hQ
  refine core _ (hr _ λι' ev s' x=> ?_)
  exact hQ ι' ev s' (P1.transX (dw.ofC (q:={ q with H:=q.H++[.flds []] }) ha P1.rel (o3.frames hu x)))
theorem AD (C:bL G) {x:String} {a fI:Addr} {F:Fc} {k0:Nat} {es:List Expr} {p pos:Pos} {m:Cm (List V)} (hx:env.kindOf (Str.ofString x)=some .globalImplicit)
  (hv:nsIn G.K mainGlobals (Str.ofString x)=some (some (.ref a))) (hkeep:keepIn G.K (.ref a)=true) (hd:(Str.ofString x==("__debug__" : Str))=false) (hc:G.cls x=some a) (hm:makesIn G.K a=true)
  (hi:findIn G.K (.ref a) "__init__" = some (some (.ref fI))) (hf:typeIn G.K (.ref fI)=some (.type "function")) (hF:ck hq k0 fI F) (hk:k0<k) (h1:Bv hq k env es m)
  (hp:(backTo pos (starEach es env)).any (·.1)=false) :
  Ev hq k env (.Call (.Name (Str.ofString x) p) es [] pos) (m.b λvs=>oM x F vs):=by
 intro A ι q s ha R
 refine (aU.b (T':=λvs Q E s₁=>G.K.In s₁.heap/\codeAny G.M A (.call (.ref a) ⟨vs,[]⟩) (An Q E) s₁) (h1 pos A ι q s ha R) λa' q' ι' b s' _ P hv =>
  (Hu C hc hm hi hf hF hk ha P.rel hv).imp λQ E z=>⟨C.X.keeps P.rel.st.keep,z⟩).imp λQ E y=> ?_
 show wpAny G.M A (do callWith pos (<- eval (.Name (Str.ofString x) p) env) [] (backTo pos (starEach es env)) []) Q E s
 refine wpAny_bind (jU C R hx hv hd ?_)
 exact callWith_of (P:=G.K.In) (by rw [hp];rfl) (keeps_K hkeep) (cV hp (wpAny_mono y (λvs s₁ z=>⟨z.1,wpAny_call z.2⟩) λ_ _ z=>z))
end
section
variable {hq:Bool} {k:Nat} {env:Env} {A:Around} {ι ι':List Addr} {q q':S} {s s':Shared} {H H':Hp} {h:Heap}
theorem Hb {hs:List ExceptHandler} {x c:String} {m m':Cm Fl} (h1:yK k env hs x m) (h2:yK k env hs c m'):yK k env hs c (if c=x then m else m'):=by
 by_cases e:c=x
 ·subst e;rw [if_pos rfl];exact h1
 ·rw [if_neg e];exact h2
theorem um {L:List (String×Addr)} {c:String} {a:Addr} (e:L.lookup c=some a):(c,a)∈L:=bC e
theorem ie {f:String} {L:List (String×Addr)} (hL:∀c,G.cls c=L.lookup c) (h:(L.all λp=>AI G.K p.2 (Str.ofString f))=true):sB f:=λc a e =>
 (List.all_eq_true.mp h) (c,a) (um ((hL c).symm.trans e))
theorem ig {f:String} {L:List (String×Addr)} (hL:∀c,G.cls c=L.lookup c) (h:(L.all λp=>Fe G.K p.2 (Str.ofString f))=true):sC f:=λc a e =>
 (List.all_eq_true.mp h) (c,a) (um ((hL c).symm.trans e))
end
theorem Jd {α:Type} {l:List α} (h:l.length=1):∃a,l=[a]:=List.length_eq_one_iff.mp h
theorem Gd {α:Type} {n:Nat} {l:List α} (h:l.length=n+1):∃a r,l=a::r/\r.length=n:=by
 cases l with
 | nil=>cases h
 | cons a r=>exact ⟨a,r,rfl,by simpa using h⟩
theorem Je {α:Type} {l:List α} (h:l.length=2):∃a b,l=[a,b]:=by obtain ⟨a,r,rfl,h2⟩:=Gd h;obtain ⟨b,rfl⟩:=Jd h2;exact ⟨a,b,rfl⟩
theorem Jf {α:Type} {l:List α} (h:l.length=3):∃a b c,l=[a,b,c]:=by obtain ⟨a,r,rfl,h2⟩:=Gd h;obtain ⟨b,c,rfl⟩:=Je h2;exact ⟨a,b,c,rfl⟩
theorem Jg {α:Type} {l:List α} (h:l.length=4):∃a b c d,l=[a,b,c,d]:=by obtain ⟨a,r,rfl,h2⟩:=Gd h;obtain ⟨b,c,d,rfl⟩:=Jf h2;exact ⟨a,b,c,d,rfl⟩
theorem JO {α:Type} {l:List α} (h:l.length=5):∃a b c d e,l=[a,b,c,d,e]:=by obtain ⟨a,r,rfl,h2⟩:=Gd h;obtain ⟨b,c,d,e,rfl⟩:=Jg h2;exact ⟨a,b,c,d,e,rfl⟩
theorem Ik (C:bL G) {f:Addr} {F:Fc} {k:Nat} (hF:ck true k f F) (hk:k<=100) {s₁:Shared} (hB:G.hB=s₁.heap) (hos:s₁.os=G.os) (hg:s₁.gens = #[]) (hval:∃H',F [.scr] []= .ok (.bool true) H')
  {R:Result->Shared->Prop} (hR:∀s',(∀b o,s₁.heap.get? b=some o->s'.heap.get? b=some o)->s'.os=s₁.os->s'.gens = #[]->R (.ok (.ret (.bool true))) s') :
  codeAny G.M callerA (.call (.ref f) ⟨[.ref G.sa],[]⟩) R s₁:=by
 obtain ⟨H',hv⟩:=hval
 haveI st:eQ [] [] s₁.heap:=⟨by rw [hB];exact λ_ _ e=>e,rfl,List.nodup_nil,λa ha=>(nomatch ha),λi a o e=>by simp at e⟩
 haveI:=hF callerA [] [] s₁ [.scr] [.ref G.sa] ⟨λ_=>rfl,by show 301+3*k<=800;exact b9 0x320a003d00012dac0000064a0031 hk,aao (Nat.add_le_add_left (Nat.mul_le_mul_left 50 hk) 4) ∅⟩ ⟨[],rfl⟩ st (λenv he=>by cases he) hg hos (λ_ h=>by cases h) (oY rfl yD)
 rw [hv] at this
 refine this R λι' cv s' P r=> ?_
 rw [show cv= .bool true from r]
 exact hR s' (λb o e=>P.st.keep b o (by rw [hB];exact e)) (by rw [P.os,hos]) P.gens
set_option linter.unusedSimpArgs false
section
variable {α β:Type} {q q':S} {l:bp} {H:Hp}
theorem rZ (m:Cm α) (f:α->Cm β) (q:S):(m.b f) q=match m q with | .ok a q'=>f a q' | .exc c q'=> .exc c q' | .stuck=> .stuck:=rfl
theorem Jn (a:α) (q:S):Cm.p a q= .ok a q:=rfl
theorem Jm (x:String) (l:bp) (H:Hp):af x ⟨l,H⟩=match l x with | some v=> .ok v ⟨l,H⟩ | none=> .stuck:=rfl
theorem zQ (x:String) (v:V) (l:bp) (H:Hp):aL x v ⟨l,H⟩= .ok () ⟨upd l x v,H⟩:=rfl
theorem Cj (m m':Cm Fl) (q:S):aB m m' q=match m q with | .ok .next q'=>m' q' | .ok (.ret v) q'=> .ok (.ret v) q' | .exc c q'=> .exc c q' | .stuck=> .stuck:=by
 unfold aB Cm.b
 cases m q with
 | ok a q'=>cases a<;>rfl
 | exc c q'=>rfl
 | stuck=>rfl
theorem uF (F:Fc) (vs:List V) (l:bp) (H:Hp):bD F vs ⟨l,H⟩=match F vs H with | .ok v H'=> .ok v ⟨l,H'⟩ | .exc c H'=> .exc c ⟨l,H'⟩ | .stuck=> .stuck:=rfl
theorem Bd (c:String) (F:Fc) (vs:List V) (l:bp) (H:Hp):oM c F vs ⟨l,H⟩=match F (.inst c H.length::vs) (H++[.flds []]) with
 | .ok .none H'=> .ok (.inst c H.length) ⟨l,H'⟩ | .ok _ _=> .stuck | .exc c' H'=> .exc c' ⟨l,H'⟩ | .stuck=> .stuck:=rfl
theorem Hg (m:Cm Fl) (sel:String->Cm Fl) (q:S):Du m sel q=match m q with | .ok f q'=> .ok f q' | .exc c q'=>(match sel c q' with | .ok f q''=> .ok f q'' | _=> .stuck) | .stuck=> .stuck:=rfl
theorem Ig (ps:List String) (m:Cm Fl) (vs:List V) (H:Hp):gY ps m vs H=if vs.length=ps.length then (match m ⟨a9 ps vs,H⟩ with
 | .ok (.ret v) q=> .ok v q.H | .ok .next q=> .ok .none q.H | .exc c q=> .exc c q.H | .stuck=> .stuck) else .stuck:=rfl
theorem mX (vs:List V) (l:bp) (H:Hp):eU vs ⟨l,H⟩=if vs.length<=1000000 then .ok (.ref H.length) ⟨l,H++[.list vs]⟩ else .stuck:=rfl
theorem E6 (f c:String) (i:Nat) (l:bp) (H:Hp):aE f (.inst c i) ⟨l,H⟩=match H[i]? with | some (.flds fs)=>(match fs.lookup f with | some v=> .ok v ⟨l,H⟩ | none=> .stuck) | _=> .stuck:=rfl
theorem Dk (f c:String) (v:V) (i:Nat) (l:bp) (H:Hp):b7 f v (.inst c i) ⟨l,H⟩=match H[i]? with | some (.flds fs)=>if fs.length<100 then .ok () ⟨l,H.set i (.flds (vD f v fs))⟩ else .stuck | _=> .stuck:=rfl
theorem E7 (c0 f c:String) (i:Nat) (l:bp) (H:Hp):d5 c0 f (.inst c i) ⟨l,H⟩=if c=c0 then (match H[i]? with | some (.flds fs)=>(match fs.lookup f with | some _=> .stuck | none=> .ok () ⟨l,H⟩) | _=> .stuck) else .stuck:=rfl
theorem xZ (i:Nat) (l:bp) (H:Hp):fV (.ref i) ⟨l,H⟩=match H[i]? with | some (.list _)=> .ok true ⟨l,H⟩ | some (.dict _)=> .ok false ⟨l,H⟩ | _=> .stuck:=rfl
theorem He (T:String) (v:V) (l:bp) (H:Hp):pM T v ⟨l,H⟩=match yB H v with | some t=> .ok (.bool (t==T||(t == "bool" && T == "int"))) ⟨l,H⟩ | none=> .stuck:=rfl
theorem rd (v:V) (l:bp) (H:Hp):cW v ⟨l,H⟩=match av v H with | some xs=> .ok ⟨xs,λH=>av v H=some xs⟩ ⟨l,H⟩ | none=> .stuck:=rfl
theorem mW {i:Nat} {xs:List V} (v:V) (l:bp) (H:Hp) (h:H[i]? = some (.list xs)) (hl:xs.length<1000000):gZ (.ref i) v ⟨l,H⟩= .ok .none ⟨l,H.set i (.list (xs++[v]))⟩:=by
 unfold gZ;dsimp only;rw [h];exact if_pos hl
theorem uH {o:V} {xs:List V} (l:bp) (H:Hp) (h:av o H=some xs) (hl:xs.length<=1000000):ii [o] ⟨l,H⟩= .ok (.ref H.length) ⟨l,H++[.list xs]⟩:=by
 unfold ii;dsimp only;rw [h];exact if_pos hl
theorem nv (l:bp) (x:String) (v:V):upd l x v x=some v:=if_pos rfl
theorem eP (l:bp) {x y:String} (v:V) (h:y≠x):upd l x v y=l y:=if_neg h
end
section
variable {g:Hp->Prop} {bd:V->Cm Unit} {body:Cm Fl}
open Classical in
theorem wD (x:V) (r:List V) (q:S):df g bd body (x::r) q=match ((bd x).b λ_=>body) q with
  | .ok .next q'=>if g q'.H then df g bd body r q' else .stuck
  | .ok (.ret v) q'=> .ok (.ret v) q'
  | .exc c q'=> .exc c q'
  | .stuck=> .stuck:=by
 show ((bd x).b λ_=>body.b (Ai g (df g bd body r))) q=_
 simp only [rZ]
 cases bd x q with
 | stuck=>rfl
 | exc c q'=>rfl
 | ok u q' =>
  dsimp only
  cases body q' with
  | stuck=>rfl
  | exc c q'=>rfl
  | ok f q'=>cases f<;>rfl
theorem bP {x:V} {r:List V} {q q':S} (h:((bd x).b λ_=>body) q= .ok .next q') (hg:g q'.H):df g bd body (x::r) q=df g bd body r q':=by rw [wD,h];exact if_pos hg
theorem tT {x:V} {r:List V} {q q':S} {v:V} (h:((bd x).b λ_=>body) q= .ok (.ret v) q'):df g bd body (x::r) q= .ok (.ret v) q':=by rw [wD,h]
theorem fM (I:List V->S->Prop) (step:∀x r q,I (x::r) q-> ∃q',((bd x).b λ_=>body) q= .ok .next q'/\g q'.H/\I r q'):∀xs q,I xs q-> ∃q',df g bd body xs q= .ok .next q'/\I [] q'
 | [],q,h=>⟨q,rfl,h⟩
 | x::r,q,h=>by
  obtain ⟨q',h1,h2,h3⟩:=step x r q h
  rw [bP h1 h2]
  exact fM I step r q' h3
end
theorem pz (i:Int):SeqAt.shaped (.int i)=true:=by simp [SeqAt.shaped,PyData.canLay0,PyData.depth]
def Sh (n:Nat) (d:PyData):Prop:=d.canLay0=true/\d.depth<=n
theorem uR (n:Nat) (i:Int):Sh n (.int i):=⟨by simp [PyData.canLay0],by simp [PyData.depth]⟩
theorem Bi {n:Nat}:∀ {ds:List PyData},(∀d∈ds,Sh n d)->PyData.canLayAll0 ds=true/\PyData.depthAll ds<=n
 | [],_=>⟨by simp [PyData.canLayAll0],by simp [PyData.depthAll]⟩
 | d::ds,h=>by
  obtain ⟨h1,h2⟩:=Bi (n:=n) λe he=>h e (.tail _ he)
  obtain ⟨h3,h4⟩:=h d (.head _)
  exact ⟨by simp [PyData.canLayAll0,h1,h3],by simp only [PyData.depthAll];exact Nat.max_le.mpr ⟨h4,h2⟩⟩
theorem yp {n:Nat} {ds:List PyData} (h:∀d∈ds,Sh n d):Sh (n+1) (.list ds):=by
 obtain ⟨h1,h2⟩:=Bi h
 exact ⟨by simpa [PyData.canLay0] using h1,by simp [PyData.depth];exact h2⟩
theorem zZ {n:Nat} {ds:List PyData} (h:∀d∈ds,Sh n d):Sh (n+1) (.tuple ds):=by
 obtain ⟨h1,h2⟩:=Bi h
 exact ⟨by simpa [PyData.canLay0] using h1,by simp [PyData.depth];exact h2⟩
theorem Sh.shaped {n:Nat} {d:PyData} (h:Sh n d) (hn:n<=64):SeqAt.shaped d=true:=by
 unfold SeqAt.shaped;rw [h.1];haveI:=h.2;simp;exact cu 0x40a100101000040a0012 hn this
theorem uq {α β γ:Type} (f:β->Option γ) (g:α->β) (h:α->γ) (e:∀x,f (g x)=some (h x)):∀xs:List α,dt f (xs.map g)=some (xs.map h)
 | []=>rfl
 | x::xs=>by
  show ((f (g x)).bind λd=>(dt f (xs.map g)).map (d :: ·))=_
  rw [e x,uq f g h e xs];rfl
theorem vv (H:Hp) (i:Int):toD H 8 (.int i)=some (.int i):=rfl
theorem Ah (H:Hp) (i:Nat) {xs:List V} {ds:List PyData} (h:H[i]? = some (.list xs)) (hd:dt (toD H 7) xs=some ds):toD H 8 (.ref i)=some (.list ds):=by
 show (match H[i]? with | some (.list xs)=>(dt (toD H 7) xs).map PyData.list | _=>none)=_
 rw [h];dsimp only;rw [hd];rfl
theorem qD (H:Hp) (n:Nat) (xs:List Int):dt (toD H (n+1)) (xs.map V.int)=some (xs.map PyData.int):=uq (toD H (n+1)) V.int PyData.int (λ_=>rfl) xs
theorem yo (xs:List Int):Sh 1 (.list (xs.map PyData.int)):=yp λd hd=>by obtain ⟨i,_,rfl⟩:=aaf.mp hd;exact uR _ _
theorem pb {α:Type} [DecidableEq α] (f:α->PyData) (h:∀x y,PyData.eqv (f x) (f y)=decide (x=y)):∀xs ys:List α,PyData.eqvAll (xs.map f) (ys.map f)=decide (xs=ys)
 | [],[]=>rfl
 | [],y::ys=>rfl
 | x::xs,[]=>rfl
 | x::xs,y::ys=>by
  show (PyData.eqv (f x) (f y)&&PyData.eqvAll (xs.map f) (ys.map f))=_
  rw [h,pb f h xs ys,<- Bool.decide_and]
  exact decide_eq_decide.mpr (by rw [List.cons.injEq])
theorem nI (i j:Int):PyData.eqv (.int i) (.int j)=decide (i=j):=rfl
theorem uG (i j:Int) (q:S):nZ (.int i) (.int j) q= .ok (decide (i=j)) q:=by
 unfold nZ FR;rw [vv,vv,abe,abe,pz,pz];rfl
theorem jZ {i j:Nat} {xs ys:List Int} {q:S} (h1:q.H[i]? = some (.list (xs.map .int))) (h2:q.H[j]? = some (.list (ys.map .int))):nZ (.ref i) (.ref j) q= .ok (decide (xs=ys)) q:=by
 haveI t1:toD q.H 8 (.ref i)=some (.list (xs.map PyData.int)):=Ah _ _ h1 (qD _ _ _)
 haveI t2:toD q.H 8 (.ref j)=some (.list (ys.map PyData.int)):=Ah _ _ h2 (qD _ _ _)
 unfold nZ FR
 rw [t1,t2,abe,abe,(yo xs).shaped ∅,(yo ys).shaped ∅]
 show sG.ok (PyData.eqvAll _ _) q=_
 rw [pb PyData.int nI]
theorem nN {i:Nat} {a:Int} {xs:List Int} {q:S} (h1:q.H[i]? = some (.list (xs.map .int))):tY (.int a) (.ref i) q= .ok (decide (a∈xs)) q:=by
 haveI:∀xs:List Int,((xs.map PyData.int).any λy=>PyData.eqv y (.int a))=decide (a∈xs):=λxs=>by
  induction xs with
  | nil=>simp
  | cons x xs ih=>simp only [aaq,List.any_cons,ih,nI,aai,Bool.decide_or,@eq_comm _ x a]
 unfold tY IN;dsimp only;rw [h1];dsimp only
 rw [vv,qD,abe,abe,pz,(yo xs).shaped ∅,this];rfl
theorem aN (H:Hp) (o:O):(H++[o])[H.length]? = some o:=by simp
theorem wI (H:Hp) (o o':O):(H++[o]).set H.length o'=H++[o']:=by simp
theorem aA {H H':Hp} (p:H<+:H') {i:Nat} {o:O} (e:H[i]? = some o):H'[i]? = some o:=getElem?_prefix p e
theorem j3 (b:Int) (q:S) (h : -1000000<b/\b<1000000):fi [.int b] q= .ok ⟨bN 0 b.toNat,λ_=>True⟩ q:=by
 unfold fi;dsimp only;rw [if_pos h];rfl
theorem bT (a b:Int) (hb:0<b):0<=a.fmod b/\a.fmod b<b:=⟨Int.fmod_nonneg_of_pos a hb,Int.fmod_lt_of_pos a hb⟩
section
variable {m m':Cm Fl} {q:S} {P P':S->Prop} {R:V->Hp->Prop}
theorem ak {q':S} {r:sG S Fl} (h:m q= .ok .next q') (k:m' q'=r):aB m m' q=r:=by rw [Cj,h];exact k
end
section
variable {m:Cm Fl} {ps:List String} {vs:List V} {H:Hp} {q:S} {v:V} {c:String}
theorem nJ (hl:vs.length=ps.length) (h:m ⟨a9 ps vs,H⟩= .ok .next q):gY ps m vs H= .ok .none q.H:=by rw [Ig,if_pos hl,h]
theorem bg (hl:vs.length=ps.length) (h:m ⟨a9 ps vs,H⟩= .ok (.ret v) q):gY ps m vs H= .ok v q.H:=by rw [Ig,if_pos hl,h]
theorem mH (hl:vs.length=ps.length) (h:m ⟨a9 ps vs,H⟩= .exc c q):gY ps m vs H= .exc c q.H:=by rw [Ig,if_pos hl,h]
theorem fS {m m':Cm Fl} {q q':S} {v:V} (h:m q= .ok (.ret v) q'):aB m m' q= .ok (.ret v) q':=by rw [Cj,h]
theorem nQ {m m':Cm Fl} {q q':S} {c:String} (h:m q= .exc c q'):aB m m' q= .exc c q':=by rw [Cj,h]
end
noncomputable def gn (caps:List String) (l:bp):bp:=λx=>if x∈caps then l x else none
open Classical in
noncomputable def rM {α:Type} (l:bp):sG S α->sG Hp α
 | .ok a q=>if q.l=l then .ok a q.H else .stuck
 | _=> .stuck
noncomputable def bM (bd:V->Cm Unit) (tst:Cm Bool) (elt:Cm V) (lc:bp) (v:V) (H:Hp):sG Hp (Option V):=match bd v ⟨lc,H⟩ with
 | .ok _ q1=>(match rM q1.l (tst q1) with
  | .ok true H2=>(match rM q1.l (elt ⟨q1.l,H2⟩) with | .ok y H3=> .ok (some y) H3 | _=> .stuck)
  | .ok false H2=> .ok none H2
  | _=> .stuck)
 | _=> .stuck
open Classical in
noncomputable def fU (g:Hp->Prop) (bd:V->Cm Unit) (tst:Cm Bool) (elt:Cm V) (lc:bp):List V->Hp->sG Hp (List V)
 | [],H=> .ok [] H
 | v::r,H=>match bM bd tst elt lc v H with
  | .ok o H'=>if g H' then (match fU g bd tst elt lc r H' with | .ok ys H''=> .ok (o.toList++ys) H'' | _=> .stuck) else .stuck
  | _=> .stuck
noncomputable def cC (caps:List String) (mi:Cm It) (bd:V->Cm Unit) (tst:Cm Bool) (elt:Cm V):Cm V:=mi.b λit=>λq =>
 if it.xs.length<=1000000 then (match fU it.g bd tst elt (gn caps q.l) it.xs q.H with
  | .ok ys H'=> .ok (.ref H'.length) ⟨q.l,H'++[.list ys]⟩
  | _=> .stuck) else .stuck
theorem ue {α:Type} {l:bp} {r:sG S α} {a:α} {H:Hp} (e:rM l r= .ok a H):r= .ok a ⟨l,H⟩:=by
 cases r with
 | ok b q =>
  unfold rM at e;dsimp only at e
  split at e
  ·rename_i h
   cases e
   obtain ⟨ql,qH⟩:=q
   dsimp only at h
   subst h
   rfl
  ·cases e
 | _=>cases e
theorem ud {α:Type} {l:bp} {a:α} {H:Hp}:rM l (.ok a ⟨l,H⟩)= .ok a H:=by unfold rM;exact if_pos rfl
theorem yT {bd:V->Cm Unit} {tst:Cm Bool} {elt:Cm V} {lc:bp} {v:V} {H H':Hp} {o:Option V} (e:bM bd tst elt lc v H= .ok o H') :
  ∃u q1,bd v ⟨lc,H⟩= .ok u q1/\((tst q1= .ok false ⟨q1.l,H'⟩/\o=none)\/ ∃H2 y,tst q1= .ok true ⟨q1.l,H2⟩/\elt ⟨q1.l,H2⟩= .ok y ⟨q1.l,H'⟩/\o=some y):=by
 refine wG λX' kX=> ?_
 unfold bM at e
 cases h1:bd v ⟨lc,H⟩ with
 | ok u q1 =>
  rw [h1] at e;dsimp only at e
  cases h2:rM q1.l (tst q1) with
  | ok b H2 =>
   rw [h2] at e
   cases b with
   | true =>
    dsimp only at e
    cases h3:rM q1.l (elt ⟨q1.l,H2⟩) with
    | ok y H3 =>
     rw [h3] at e
     cases e
     exact kX ⟨u,q1,h1,.inr ⟨H2,y,ue h2,ue h3,rfl⟩⟩
    | _=>rw [h3] at e;cases e
   | false =>
    cases e
    exact kX ⟨u,q1,h1,.inl ⟨ue h2,rfl⟩⟩
  | _=>rw [h2] at e;cases e
 | _=>rw [h1] at e;cases e
open Classical in
theorem tL {g:Hp->Prop} {bd:V->Cm Unit} {tst:Cm Bool} {elt:Cm V} {lc:bp} (v:V) (r:List V) (H:Hp):fU g bd tst elt lc (v::r) H=match bM bd tst elt lc v H with
  | .ok o H'=>if g H' then (match fU g bd tst elt lc r H' with | .ok ys H''=> .ok (o.toList++ys) H'' | _=> .stuck) else .stuck
  | _=> .stuck:=rfl
theorem D4 {g:Hp->Prop} {bd:V->Cm Unit} {tst:Cm Bool} {elt:Cm V} {lc:bp} {v:V} {r:List V} {H Hf:Hp} {ys:List V} (e:fU g bd tst elt lc (v::r) H= .ok ys Hf) :
  ∃o H' zs,A4 (bM bd tst elt lc v H= .ok o H') (g H') (fU g bd tst elt lc r H'= .ok zs Hf) (ys=o.toList++zs):=by
 refine wG λX' kX=> ?_
 rw [tL] at e
 cases h1:bM bd tst elt lc v H with
 | ok o H' =>
  rw [h1] at e;dsimp only at e
  by_cases hg:g H'
  ·rw [if_pos hg] at e
   cases h2:fU g bd tst elt lc r H' with
   | ok zs H'' =>
    rw [h2] at e
    cases e
    exact kX ⟨o,H',zs,h1,hg,h2,rfl⟩
   | _=>rw [h2] at e;cases e
  ·rw [if_neg hg] at e;cases e
 | _=>rw [h1] at e;cases e
noncomputable def jS (scope:Scope) (env:Env):List (Str×Addr):=scope.names.foldl (λcs p=>if p.2 == .free then (p.1,(env.cells.lookup p.1).getD 0)::cs else cs) []
noncomputable def zk (scope:Scope):List Str:=(scope.names.filter λp=>p.2 == .free).map (·.1)
noncomputable def HR:Option NameKind->Bool
 | some .cell=>true
 | some .free=>true
 | _=>false
theorem zv {k:Option NameKind} (h:HR k=true):k=some .cell\/k=some .free:=by
 cases k with
 | none=>cases h
 | some k =>
  cases k with
  | cell=>exact .inl rfl
  | free=>exact .inr rfl
  | _=>cases h
noncomputable def BH (scope:Scope) (env:Env) (caps:List String):Bool :=
 (scope.kind == .function)&&(scope.names.all λp=>p.2 != .cell)&&(scope.names.all λp=>p.2 != .local||scope.names.lookup p.1==some .local) &&
 (scope.names.all λp=>p.2 != .free||(env.cells.lookup p.1).isSome)&&decide (zk scope).Nodup&&((zk scope).all λn=>caps.any λx=>n==Str.ofString x) &&
 (caps.all λx=>(zk scope).contains (Str.ofString x))&&(caps.all λx=>HR ((relabel scope env).names.lookup (Str.ofString x)))&&(caps.all λx=>HR (env.kindOf (Str.ofString x)))
structure fW (env:Env) (scope:Scope) (cl:List (Str×Addr)) (caps:List String):Prop where
 kind:scope.kind= .function
 cell:∀y∈scope.names,y.2≠ .cell
 names:∀x∈scope.names,x.2= .local->scope.names.lookup x.1=some .local
 at':∀p∈cl,env.cells.lookup p.1=some p.2
 nd:(cl.map (·.1)).Nodup
 all:∀p∈cl,∃x∈caps,p.1=Str.ofString x
 cap:∀x∈caps,Str.ofString x∈cl.map (·.1)
 kc:∀x∈caps,(relabel scope env).names.lookup (Str.ofString x)=some .cell\/(relabel scope env).names.lookup (Str.ofString x)=some .free
 ke:∀x∈caps,env.kindOf (Str.ofString x)=some .cell\/env.kindOf (Str.ofString x)=some .free
theorem yQ (env:Env):∀(l:List (Str×NameKind)) (acc:List (Str×Addr)),
  l.foldl (λcs p=>if p.2 == .free then (p.1,(env.cells.lookup p.1).getD 0)::cs else cs) acc=((l.filter λp=>p.2 == .free).map λp=>(p.1,(env.cells.lookup p.1).getD 0)).reverse++acc
 | [],acc=>rfl
 | p::r,acc=>by
  rw [List.foldl_cons,yQ env r]
  cases h:p.2 == .free with
  | true=>rw [aaL (by exact h)];simp
  | false=>rw [aaG (by rw [h];simp)];simp
theorem yP (scope:Scope) (env:Env):jS scope env=((scope.names.filter λp=>p.2 == .free).map λp=>(p.1,(env.cells.lookup p.1).getD 0)).reverse:=by
 unfold jS;rw [yQ];simp
theorem qN (scope:Scope) (env:Env):(jS scope env).map (·.1)=(zk scope).reverse:=by
 rw [yP,List.map_reverse,aaV];rfl
theorem fW.of {env:Env} {scope:Scope} {caps:List String} (h:BH scope env caps=true):fW env scope (jS scope env) caps:=by
 unfold BH at h
 simp only [Bool.and_eq_true] at h
 refine bW λY9 y9=> ?_
 obtain ⟨⟨⟨⟨⟨⟨⟨⟨h1,h2⟩,h3⟩,h4⟩,h5⟩,h6⟩,h7⟩,h8⟩,h9⟩:=h
 refine y9 ?_
 rw [List.all_eq_true] at h2 h3 h4 h6 h7 h8 h9
 refine ⟨beq_iff_eq.mp h1,λy hy=>by simpa using h2 y hy,λx hx e=> ?_,λp hp=> ?_,?_,λp hp=> ?_,λx hx=> ?_,λx hx=>zv (h8 x hx),λx hx=>zv (h9 x hx)⟩
 ·haveI:=h3 x hx
  rw [e] at this
  simpa using this
 ·rw [yP,aax,aaf] at hp
  refine bW λY9 y9=> ?_
  obtain ⟨p',hp',rfl⟩:=hp
  obtain ⟨m1,m2⟩:=aaz.mp hp'
  haveI:=h4 p' m1
  rw [show p'.2= .free from beq_iff_eq.mp m2] at this
  haveI h':(env.cells.lookup p'.1).isSome=true:=by simpa using this
  obtain ⟨a,ha⟩:=aaT.mp h'
  refine y9 ?_
  dsimp only
  rw [ha];rfl
 ·rw [qN];exact List.pairwise_reverse.mpr ((of_decide_eq_true h5:(zk scope).Nodup).imp λh=>Ne.symm h)
 ·haveI hm:p.1∈(jS scope env).map (·.1):=aaf.mpr ⟨p,hp,rfl⟩
  rw [qN,aax] at hm
  obtain ⟨x,hx,e⟩:=List.any_eq_true.mp (h6 _ hm)
  exact ⟨x,hx,beq_iff_eq.mp e⟩
 ·rw [qN,aax]
  simpa using h7 x hx
theorem wO {l:List (Str×Addr)} {x y:Str} {c:Addr} (hn:(l.map (·.2)).Nodup) (h1:(x,c)∈l) (h2:(y,c)∈l):x=y:=by
 induction l with
 | nil=>cases h1
 | cons p r ih =>
  rw [aaq,abd] at hn
  rcases aai.mp h1 with e1 | h1<;>rcases aai.mp h2 with e2 | h2
  ·rw [<- e1] at e2;exact (congrArg Prod.fst e2).symm
  ·exact absurd (aaf.mpr ⟨_,h2,by rw [<- e1]⟩) hn.1
  ·exact absurd (aaf.mpr ⟨_,h1,by rw [<- e2]⟩) hn.1
  ·exact ih hn.2 h1 h2
theorem xT {l:List (Str×Addr)} (hn:(l.map (·.1)).Nodup) (h:∀p∈l,∀p'∈l,p.2=p'.2->p.1=p'.1):(l.map (·.2)).Nodup:=by
 induction l with
 | nil=>exact List.nodup_nil
 | cons p r ih =>
  rw [aaq,abd] at hn ⊢
  refine ⟨λhm=> ?_,ih hn.2 λa ha b hb=>h a (.tail _ ha) b (.tail _ hb)⟩
  obtain ⟨p',hp',e⟩:=aaf.mp hm
  exact hn.1 (aaf.mpr ⟨p',hp',h p' (.tail _ hp') p (.head _) e⟩)
section
variable {hq:Bool} {k:Nat} {env:Env} {A:Around} {ι ι' ι0:List Addr} {q q':S} {s s' s0:Shared} {H H':Hp} {h:Heap} {scope:Scope} {cl:List (Str×Addr)} {caps:List String} {Cd:Addr}
theorem jN.weaken {l l':bp} {hv hl:Heap} (x:jN env l ι hv hl) (h:∀y v,l' y=some v->l y=some v):jN env l' ι hv hl :=
 ⟨x.kind,x.glob,x.blt,let ⟨m,hn,hm⟩:=x.loc;⟨m,hn,λy v e e2=>hm y v (h y v e) e2⟩,λy v e e2=>x.cel y v (h y v e) e2,x.cells,x.ndup,x.dis,x.fresh⟩
theorem cL.weaken {l':bp} (R:cL A env ι q s) (h:∀y v,l' y=some v->q.l y=some v):cL A env ι ⟨l',q.H⟩ s:=⟨R.st,R.fr.weaken h,R.fs,R.gens,R.os,R.hn⟩
theorem uK {l:bp} {x:String} {v:V} (e:gn caps l x=some v):x∈caps/\l x=some v:=by
 unfold gn at e
 split at e
 ·rename_i h;exact ⟨h,e⟩
 ·cases e
theorem fW.mem (Z:fW env scope cl caps) {p:Str×Addr} (hp:p∈cl):p∈env.cells:=bC (Z.at' p hp)
theorem fW.own (Z:fW env scope cl caps) {a:Addr} (ha:a∈cl.map (·.2)):a∈own env:=by
 obtain ⟨p,hp,rfl⟩:=aaf.mp ha
 exact List.mem_cons_of_mem _ (aaf.mpr ⟨p,Z.mem hp,rfl⟩)
theorem fW.look (Z:fW env scope cl caps) {x:String} (hx:x∈caps) {a:Addr} (h:env.cells.lookup (Str.ofString x)=some a):cl.lookup (Str.ofString x)=some a:=by
 obtain ⟨p,hp,e⟩:=aaf.mp (Z.cap x hx)
 haveI h1:=Z.at' p hp
 rw [e,h] at h1
 haveI:p=(Str.ofString x,a):=by obtain ⟨p1,p2⟩:=p;dsimp only at e h1;rw [e,Option.some.inj h1]
 exact lookup_of_mem_nodup Z.nd (this▸hp)
theorem j9.comp (ha:j9 hq k A env):j9 hq k A (compEnvC scope cl Cd env):=⟨ha.toROk,ha.fr⟩
theorem cL.comp (Z:fW env scope cl caps) (R:cL A env ι q s) {m:Str->Option Value} (hn:s.heap.Ns Cd m) (hC:Cd∉ι/\G.hB.get? Cd=none) :
  cL A (compEnvC scope cl Cd env) ι ⟨gn caps q.l,q.H⟩ s where
 st:=R.st
 fs:=R.fs
 gens:=R.gens
 os:=R.os
 hn:=R.hn
 fr:={
  kind:=Z.kind
  glob:=R.fr.glob
  blt:=R.fr.blt
  loc:=⟨m,hn,λx v e e2=>by
   obtain ⟨hx,_⟩:=uK e
   have e2':(relabel scope env).names.lookup (Str.ofString x)=some .local:=e2
   rcases Z.kc x hx with h1 | h1<;>rw [h1] at e2'<;>cases e2'⟩
  cel:=λx v e _=>by
   refine bW λY9 y9=> ?_
   obtain ⟨hx,e⟩:=uK e
   obtain ⟨c,o,cv,h1,h2,h3,h4⟩:=R.fr.cel x v e (Z.ke x hx)
   refine y9 ?_
   exact ⟨c,o,cv,Z.look hx h1,h2,h3,h4⟩
  cells:=λp hp=>R.fr.cells p (Z.mem hp)
  ndup:=xT Z.nd λp hp p' hp' e=>wO (c:=p.2) R.fr.ndup (Z.mem hp) (by rw [e];exact Z.mem hp')
  dis:=λa ha=>by
   rcases aai.mp ha with rfl | ha
   ·exact hC.1
   ·exact R.fr.dis a (Z.own ha)
  fresh:=λa ha=>by
   rcases aai.mp ha with rfl | ha
   ·exact hC.2
   ·exact R.fr.fresh a (Z.own ha) }
theorem aY.comp (Z:fW env scope cl caps) {q0 qc:S} (R0:cL A env ι0 q0 s0) (P0:aY A env ι0 s0 ι q s) (hC:s0.heap.get? Cd=none) (Rc:cL A (compEnvC scope cl Cd env) ι qc s)
  (P:aY A (compEnvC scope cl Cd env) ι s ι' q' s') (hl:∀x∈caps,q'.l x=q.l x):aY A env ι0 s0 ι' ⟨q.l,q'.H⟩ s':=by
 have im:oi s.heap s'.heap:=Rc.imm P.kp
 have R:=P0.rel
 obtain ⟨cO,cF,cB⟩:=R0.fresh3 hC
 have isCell:∀a∈env.cells.map (·.2),∃o ov,s.heap.get? a=some o/\o.data= .cell ov:=λa ha=>by
  obtain ⟨p,hp,rfl⟩:=aaf.mp ha;exact R.fr.cells p hp
 haveI notFr:∀a∈env.cells.map (·.2),a∉kJ A:=λa ha hf=>by
  refine bW λY9 y9=> ?_
  obtain ⟨o,ov,e,d⟩:=isCell a ha
  obtain ⟨o',e',es,n,d'⟩:=dW R.fs hf
  refine y9 ?_
  rw [e] at e';cases e';rw [d] at d';cases d'
 have cellEx:∀a∈env.cells.map (·.2),a∉cl.map (·.2)-> ∀o,s.heap.get? a=some o->s'.heap.get? a=some o:=λa ha hn o e=>by
  have hao:a∈own env:=List.mem_cons_of_mem _ ha
  refine P.kp.ex a o e (λhm=> ?_) (notFr a ha)
  rcases aap.mp hm with h1 | h1
  ·rcases aai.mp h1 with h1 | h1
   ·exact cO ((show a=Cd from h1)▸hao)
   ·exact hn h1
  ·exact R.fr.dis a hao h1
 refine ⟨P0.pre.trans P.pre,⟨P.rel.st,⟨R.fr.kind,R.fr.glob,R.fr.blt,?_,?_,?_,R.fr.ndup,?_,R.fr.fresh⟩,P.rel.fs,P.rel.gens,P.rel.os,P.rel.hn⟩,?_,λa ha=>qX P0.new P0.kp.size P.new ha⟩
 ·refine bW λY9 y9=> ?_
  obtain ⟨m,⟨o,es,ep,ho,hd,r⟩,hm⟩:=R.fr.loc
  obtain ⟨sl,hs⟩:=P.kp.up env.locals o ho λhm=>by
   rcases aap.mp hm with h1 | h1
   ·rcases aai.mp h1 with h1 | h1
    ·exact cO ((show env.locals=Cd from h1) ▸ .head _)
    ·haveI h1':env.locals∈cl.map (·.2):=h1
     obtain ⟨p,hp,e⟩:=aaf.mp h1'
     obtain ⟨o',ov,e',d'⟩:=isCell env.locals (aaf.mpr ⟨p,Z.mem hp,e⟩)
     rw [ho] at e';cases e';rw [hd] at d';cases d'
   ·exact R.fr.dis _ (.head _) h1
  refine y9 ?_
  exact ⟨m,⟨_,es,ep,hs,hd,r⟩,λy v e e2=>let ⟨cv,a,b⟩:=hm y v e e2;⟨cv,a,b.mono P.pre im⟩⟩
 ·intro x v e e2
  refine bW λY9 y9=> ?_
  obtain ⟨c,o,cv,h1,h2,h3,h4⟩:=R.fr.cel x v e e2
  refine y9 ?_
  have hmem:=bC h1
  by_cases hc:c∈cl.map (·.2)
  ·refine bW λY9 y9=> ?_
   obtain ⟨p,hp,e3⟩:=aaf.mp hc
   obtain ⟨y,hy,e4⟩:=Z.all p hp
   refine y9 ?_
   have e5:p.1=Str.ofString x:=wO (c:=c) R.fr.ndup (by haveI:=Z.mem hp;rw [<- e3];exact this) hmem
   obtain rfl:y=x:=fQ (e4.symm.trans e5)
   refine bW λY9 y9=> ?_
   obtain ⟨c',o',cv',k1,k2,k3,k4⟩:=P.rel.fr.cel y v ((hl y hy).trans e) (Z.kc y hy)
   refine y9 ?_
   exact ⟨c',o',cv',Z.at' _ (bC k1),k2,k3,k4⟩
  ·exact ⟨c,o,cv,h1,cellEx c (aaf.mpr ⟨_,hmem,rfl⟩) hc o h2,h3,h4.mono P.pre im⟩
 ·intro p hp
  by_cases hc:p.2∈cl.map (·.2)
  ·obtain ⟨p',hp',e⟩:=aaf.mp hc
   rw [<- e]
   exact P.rel.fr.cells p' hp'
  ·refine bW λY9 y9=> ?_
   obtain ⟨o,ov,h1,h2⟩:=R.fr.cells p hp
   refine y9 ?_
   exact ⟨o,ov,cellEx p.2 (aaf.mpr ⟨p,hp,rfl⟩) hc o h1,h2⟩
 ·intro a ha hi
  rcases P.new a hi with h1 | h1
  ·exact R.fr.dis a ha h1
  ·obtain ⟨o,e,_⟩:=R.fr.mut (λ_ _ e=>e) ha
   rw [h1] at e;cases e
 ·have off:∀a o,s0.heap.get? a=some o->a∉own env++ι0->a∉own (compEnvC scope cl Cd env)++ι:=λa o e hW hm=>by
   rcases aap.mp hm with h1 | h1
   ·rcases aai.mp h1 with h1 | h1
    ·rw [show a=Cd from h1,hC] at e;cases e
    ·exact hW (aaD _ (Z.own h1))
   ·rcases P0.new a h1 with h2 | h2
    ·exact hW (aau _ h2)
    ·rw [h2] at e;cases e
  refine ⟨P0.kp.size.trans P.kp.size,λa o e hW=> ?_,λa o e hW hf=>P.kp.ex a o (P0.kp.ex a o e hW hf) (off a o e hW) hf⟩
  obtain ⟨sl,e1⟩:=P0.kp.up a o e hW
  obtain ⟨sl2,e2⟩:=P.kp.up a _ e1 (off a o e hW)
  exact ⟨sl2,e2⟩
theorem aY.join {q0:S} {D:Addr} {o:O} (R:cL A env ι q0 s) (P:aY A env ι s ι' q' s') (hs:s.heap.get? D=none) (hD:D∉ι') (ho:pE (ι'++[D]) s'.heap D o) :
  aY A env ι s (ι'++[D]) ⟨q'.l,q'.H++[o]⟩ s':=by
 have pre:ι'<+:ι'++[D]:=aav _ _
 have im:=oi.refl s'.heap
 obtain ⟨n2,n4,n3⟩:=R.fresh3 hs
 have R':=P.rel
 refine ⟨P.pre.trans pre,⟨⟨R'.st.keep,by simp [R'.st.len],?_,?_,?_⟩,⟨R'.fr.kind,R'.fr.glob,R'.fr.blt,?_,?_,R'.fr.cells,R'.fr.ndup,?_,R'.fr.fresh⟩,?_,R'.gens,R'.os,R'.hn⟩,P.kp,?_⟩
 ·exact List.nodup_append.mpr ⟨R'.st.nodup,by simp,λx hx y hy=>by simp at hy;subst hy;exact λe=>hD (e▸hx)⟩
 ·intro x hx
  rcases aap.mp hx with h | h
  ·exact R'.st.fresh x h
  ·simp at h;subst h;exact n3
 ·intro i x y e1 e2
  dsimp only at e2
  by_cases hi:i<ι'.length
  ·rw [aaw hi] at e1
   rw [aaw (R'.st.len▸hi)] at e2
   exact (R'.st.obj i x y e1 e2).stays pre λ_ _ e=>e
  ·haveI hi':i=ι'.length:=by
    haveI:=(aaa.mp e1).1
    simp at this;exact aag (cu 0x100191c0111 this) (cu 0x1010511 hi)
   subst hi'
   simp at e1;subst e1
   rw [R'.st.len] at e2;simp at e2;subst e2
   exact ho
 ·obtain ⟨m,hn,hm⟩:=R'.fr.loc
  exact ⟨m,hn,λy v e e2=>let ⟨cv,a,b⟩:=hm y v e e2;⟨cv,a,b.mono pre im⟩⟩
 ·exact λy v e e2=>let ⟨c,o,cv,a,b,d,f⟩:=R'.fr.cel y v e e2;⟨c,o,cv,a,b,d,f.mono pre im⟩
 ·intro x hx hm
  rcases aap.mp hm with h | h
  ·exact R'.fr.dis x hx h
  ·simp at h;subst h;exact n2 hx
 ·intro env' he
  refine bW λY9 y9=> ?_
  obtain ⟨b1,L,o',b2,b3,b4,b5,b6⟩:=R'.fs env' he
  refine y9 ?_
  refine ⟨b1,L,o',b2,b3,b4,λhm=> ?_,b6⟩
  rcases aap.mp hm with h | h
  ·exact b5 h
  ·simp at h;subst h;exact n4 (List.mem_filterMap.mpr ⟨env',he,b2⟩)
 ·intro x hx
  rcases aap.mp hx with h | h
  ·exact P.new x h
  ·simp at h;subst h;exact .inr hs
end
abbrev I0 (hq:Bool) (k:Nat) (env:Env) (ifs:List Expr) (m:Cm Bool):Prop :=
 Sem.Is hq k env (λA=>mh A (forIn ifs true λc r=>if r=true then do let ok <- isTrue c env (eval c env);pure (ForInStep.yield ok) else pure (ForInStep.yield r))) m (λ_ _ a b=>a=b)
def DH (caps:List String) (bd:V->Cm Unit):Prop:= ∀v q u q',bd v q= .ok u q'-> ∀x∈caps,q'.l x=q.l x
section
variable {hq:Bool} {k:Nat} {env:Env} {A:Around} {ι ι' ι0:List Addr} {q q':S} {s s' s0:Shared} {H H':Hp} {h:Heap} {scope:Scope} {cl:List (Str×Addr)} {caps:List String} {Cd:Addr}
theorem ka:I0 hq k env [] (.p true):=λA ι q s ha R=>aU.ret0 R rfl λQ E hQ=>wpAny_tests_nil hQ
theorem kf {c:Expr} {m:Cm Bool} (h:Tr hq k env c m):I0 hq k env [c] m:=λA ι q s ha R=>(h A ι q s ha R).imp λQ E x=>wpAny_tests_one x
theorem dg {x:String} (hx:x∉caps):DH caps (aL x):=λv q u q' e y hy=>by
 cases e
 haveI hne:y≠x:=λe=>hx (e▸hy)
 show upd q.l x v y=q.l y
 exact eP _ _ hne
theorem BB {x y:String} (hx:x∉caps) (hy:y∉caps):DH caps (wS x y):=λv q u q' e z hz=>by
 cases v with
 | tup l =>
  cases l with
  | nil=>cases e
  | cons a l =>
  cases l with
  | nil=>cases e
  | cons b l =>
  cases l with
  | cons _ _=>cases e
  | nil =>
  cases e
  haveI h1:z≠y:=λe=>hy (e▸hz)
  haveI h2:z≠x:=λe=>hx (e▸hz)
  show upd (upd q.l x _) y _ z=q.l z
  rw [eP _ _ h1,eP _ _ h2]
 | _=>cases e
theorem xA {elt target iter:Expr} {ifs:List Expr} {pos:Pos} {it acc:Value} {cenv:Env} {R:Result->Shared->Prop} (I:Nat->Shared->Prop)
  (turn:∀n s,I n s->wpAny G.M A (pyNext it) (λr s₁=>match r with
   | none=>R (.ok .next) s₁
   | some v=>wpAny G.M A (letOwnedTupleGo target it v) (λ_ s₂=>wpAny G.M A (assign target cenv v) (λ_ s₂ =>
     wpAny G.M A (forIn ifs true λc r=>if r=true then do let ok <- isTrue c cenv (eval c cenv);pure (ForInStep.yield ok) else pure (ForInStep.yield r)) (λok s₃ =>
      if ok=true then wpAny G.M A (eval elt cenv) (λx s₄ =>
       wpAny G.M A (call (.builtin "list.append") [acc,x]) (λ_ s₅=> ∃m,m<n/\I m s₅) (notedBy G.M A cenv λe s'=>R (.error e) s') s₄) (notedBy G.M A cenv λe s'=>R (.error e) s') s₃
      else ∃m,m<n/\I m s₃) (notedBy G.M A cenv λe s'=>R (.error e) s') s₂) (notedBy G.M A cenv λe s'=>R (.error e) s') s₂) (notedBy G.M A cenv λe s'=>R (.error e) s') s₁)
    (notedBy G.M A cenv λe s'=>R (.error e) s') s)
  (n:Nat) (h:I n s):codeAny G.M A (.compLoop (.ListComp elt [⟨target,iter,ifs,0⟩] scope pos) 0 it acc cenv) R s:=by
 refine codeAny_loop rfl I (λn s hI=> ?_) n h
 show wpAny _ A ((compTurn (.ListComp elt [⟨target,iter,ifs,0⟩] scope pos) 0 it acc cenv).onRaise (λx=>do noteFrame x cenv;theTreesLotGoes x)) _ _ s
 refine wpAny_noted ?_
 rw [compTurn_list]
 refine wpAny_bind (wpAny_standAt (wpAny_bind (wpAny_mono (turn n s hI) (λr s₁ h₁=> ?_) λ_ _ h'=>h')))
 cases r with
 | none=>exact wpAny_pure h₁
 | some v =>
  refine wpAny_bind (wpAny_mono h₁ (λ_ s₂ h₂=>wpAny_bind (wpAny_mono h₂ (λ_ s₃ h₃=>wpAny_bind (wpAny_mono h₃ (λok s₄ h₄=> ?_) λ_ _ h'=>h')) λ_ _ h'=>h')) λ_ _ h'=>h')
  cases ok with
  | false=>exact wpAny_pure ⟨rfl,h₄⟩
  | true =>
   exact wpAny_bind (wpAny_bind (wpAny_mono h₄ (λx s₅ h₅=>wpAny_bind (wpAny_mono h₅ (λ_ s₆ h₆=>wpAny_pure (wpAny_pure ⟨rfl,h₆⟩)) λ_ _ h'=>h')) λ_ _ h'=>h'))
theorem Di {h:Heap} {a:Addr} {xs:Array Value} (x:h.PlainList a xs):∃o,h.get? a=some o/\DE o:=let ⟨n,e⟩:=x;⟨_,e,.inl ⟨"list",rfl,by decide⟩⟩
inductive CI (A:Around) (env cenv:Env) (ι ι1:List Addr) (s:Shared) (l1 lc:bp) (St:Nat->Heap->Prop) (priv:List Addr) (D Cd:Addr) (gg:Hp->Prop) (N:Nat) (Fn:Nat->Hp->List V->Prop) (ys:List V) (i:Nat) (ι':List Addr) (H':Hp) (ya:List V) (yc:List Value) (zs:List V) (s':Shared):Prop
 | mk (z0:i<=N) (z1:ι1<+:ι') (z2:aY A env ι s ι' ⟨l1,H'⟩ s') (z3:cL A cenv ι' ⟨lc,H'⟩ s') (z4:St i s'.heap) (z5:gg H') (z6:∀b∈priv,b∉ι') (z7:D∉ι') (z8:Cd∉ι') (z9:s'.heap.PlainList D (List.toArray yc)) (z10:aO ι' s'.heap ya yc) (z11:ya.length<=i) (z12:Fn i H' zs) (z13:ya++zs=ys)
inductive CN (A:Around) (env cenv:Env) (ι:List Addr) (s:Shared) (l1 lc:bp) (St:Nat->Heap->Prop) (priv:List Addr) (D Cd:Addr) (i:Nat) (ya:List V) (yc:List Value) (ι4:List Addr) (H4:Hp) (s4:Shared):Prop
 | mk (z0:aY A env ι s ι4 ⟨l1,H4⟩ s4) (z1:cL A cenv ι4 ⟨lc,H4⟩ s4) (z2:St i s4.heap) (z3:∀b∈priv,b∉ι4) (z4:D∉ι4) (z5:Cd∉ι4) (z6:s4.heap.PlainList D (List.toArray yc)) (z7:aO ι4 s4.heap ya yc)
theorem DO (Z:fW env scope cl caps) {elt target iter:Expr} {ifs:List Expr} {pos:Pos} {bd:V->Cm Unit} {tst:Cm Bool} {melt:Cm V} {I:Addr} {priv:List Addr} {ι1:List Addr} {it:It} {St:Nat->Heap->Prop} {q1:S} {s1:Shared}
  (ha:j9 hq k A env) (R:cL A env ι q s) (hb:∀L,tF hq k (compEnvC scope cl L env) target bd) (hbd:DH caps bd) (ht:∀L,I0 hq k (compEnvC scope cl L env) ifs tst)
  (he:∀L,Ev hq k (compEnvC scope cl L env) elt melt) (P1:aY A env ι s ι1 q1 s1) (hI:IK A target I priv ι1 it St) (h0:St 0 s1.heap) (hp:∀b∈priv,s.heap.get? b=none/\b∉ι1) (hg:it.g q1.H)
  (hlen:it.xs.length<=1000000) {ys:List V} {Hf:Hp} (hc:fU it.g bd tst melt (gn caps q1.l) it.xs q1.H= .ok ys Hf) {RR:Value->Addr->Result->Shared->Prop} {E:Value->Shared->Prop}
  (hRR:∀ι' D Cd m' s',aY A env ι s (ι'++[D]) ⟨q1.l,Hf++[.list ys]⟩ s'->ι'.length=Hf.length->s.heap.get? Cd=none->Cd∉ι'++[D]->s'.heap.Ns Cd m'->RR (.ref D) Cd (.ok .next) s') :
  wpAny G.M A (newList []) (λacc s₃=>wpAny G.M A (newFunctionEnv scope env.globals cl [] env.qual none .none (some env)) (λcenv s₄ =>
   codeAny G.M A (.compStart (.ListComp elt [⟨target,iter,ifs,0⟩] scope pos) 0 (.ref I) acc { cenv with scope:=relabel scope env }) (RR acc cenv.locals) s₄) E s₃) E s1:=by
 refine wpAny_newObj_type (wpAny_newFunctionEnv Z.cell (by intro y hy;simp at hy) (λh₁ hns1 hsb1=> ?_) Z.kind)
 dsimp only at hns1 hsb1 ⊢
 generalize hH2:s1.heap.push { cls:= .type "list",dict:=none,data:= .seq ([]:List Value).toArray }=H2 at hns1 hsb1 ⊢
 generalize hDe:s1.heap.objs.size=D at hns1 hsb1 ⊢
 have hC:H2.objs.size=D+1:=by rw [<- hH2,Heap.size_push,hDe]
 generalize hCe:H2.objs.size=Cd at hns1 hsb1 hC ⊢
 have hDC:D≠Cd:=λx9=>cu 0x90960131191c0312 hC x9
 have nD1:s1.heap.get? D=none:=aaH (cu 0x10010211 hDe)
 have nC1:s1.heap.get? Cd=none:=aaH (lh 0x200191c23110212 hDe hC)
 have up0:∀a,s1.heap.get? a=none->s.heap.get? a=none:=λa ha=>by
  cases e:s.heap.get? a with
  | none=>rfl
  | some o=>obtain ⟨o',e'⟩:=P1.kp.size a o e;rw [ha] at e';cases e'
 have nD:=up0 D nD1
 have nC:=up0 Cd nC1
 obtain ⟨dO,dF,dB⟩:=R.fresh3 nD
 obtain ⟨cO,cF,cB⟩:=R.fresh3 nC
 have old:s1.heap.StaysIn h₁:=λb o e=>hsb1.extBut b o (Nat.ne_of_lt (aa9 (Heap.lt_size e) (by rw [hDe,hC];exact Nat.le_succ _))) (aak _ (hH2▸aak _ e))
 have hacc:h₁.PlainList D #[]:=⟨_,hsb1.extBut _ _ hDC (aak _ (by rw [<- hH2,<- hDe];exact aaM _ rfl))⟩
 have pNe:∀b∈priv,b≠D/\b≠Cd:=λb hb=>by
  obtain ⟨o,e,_⟩:=hI.mu _ _ h0 b hb
  have lt:=Heap.lt_size e
  rw [hDe] at lt
  exact ⟨Nat.ne_of_lt lt,Nat.ne_of_lt (by rw [hC];exact Nat.lt_succ_of_lt lt)⟩
 have pFr:∀b∈priv,b∉own env/\b∉kJ A/\G.hB.get? b=none:=λb hb=>R.fresh3 (hp b hb).1
 have pOwn:∀b∈priv,b∉own (compEnvC scope cl Cd env):=λb hb hm=>by
  rcases aai.mp hm with h1 | h1
  ·exact (pNe b hb).2 h1
  ·exact (pFr b hb).1 (Z.own h1)
 have dOwn:D∉own (compEnvC scope cl Cd env):=λhm=>by
  rcases aai.mp hm with h1 | h1
  ·exact hDC h1
  ·exact dO (Z.own h1)
 have haC:j9 hq k A (compEnvC scope cl Cd env):=ha.comp
 have loop:∀s₂:Shared,s₂={ s1 with heap:=h₁,toks:=s1.toks+([]:List (Str×Value)).length } ->
   codeAny G.M A (.compLoop (.ListComp elt [⟨target,iter,ifs,0⟩] scope pos) 0 (.ref I) (.ref D) (compEnvC scope cl Cd env)) (RR (.ref D) Cd) s₂:=by
  rintro s₂ rfl
  have P2:aY A env ι s ι1 q1 { s1 with heap:=h₁,toks:=s1.toks+([]:List (Str×Value)).length }:=P1.trans (aY.stays P1.rel old)
  have cI1:Cd∉ι1:=(P1.rel.fresh_ne nC1).1
  have dI1:D∉ι1:=(P1.rel.fresh_ne nD1).1
  obtain ⟨J,toJ,ofJ⟩:∃J:Nat->Shared->Prop,(∀n s',(∃i ι' H' ya yc zs,n=it.xs.length+1-i/\CI A env (compEnvC scope cl Cd env) ι ι1 s q1.l (gn caps q1.l) St priv D Cd it.g it.xs.length (λi H' zs=>fU it.g bd tst melt (gn caps q1.l) (it.xs.drop i) H'= .ok zs Hf) ys i ι' H' ya yc zs s')->J n s')/\ ∀n s',J n s'-> ∃i ι' H' ya yc zs,n=it.xs.length+1-i/\CI A env (compEnvC scope cl Cd env) ι ι1 s q1.l (gn caps q1.l) St priv D Cd it.g it.xs.length (λi H' zs=>fU it.g bd tst melt (gn caps q1.l) (it.xs.drop i) H'= .ok zs Hf) ys i ι' H' ya yc zs s':=⟨_,λ_ _ h=>h,λ_ _ h=>h⟩
  refine xA J ?_ (it.xs.length+1) (toJ _ _ ⟨0,ι1,q1.H,[],[],ys,rfl,Nat.zero_le _,aam _,P2,cL.comp Z P2.rel hns1 ⟨cI1,cB⟩,hI.frame _ _ _ h0 (λb _ o e=>old b o e),hg,λb hb=>(hp b hb).2,dI1,cI1,hacc,yD,aaK _,by rw [List.drop_zero];exact hc,rfl⟩)
  intro n s' hJ
  obtain ⟨i,ι',H',ya,yc,zs,rfl,hi,hpre,P,Rc,hst,hg',hpi,hDi,hCi,hpl,hvr,hyl,hcf,hys⟩:=ofJ n s' hJ
  have hp':∀b∈priv,s.heap.get? b=none/\b∉ι':=λb hb=>⟨(hp b hb).1,hpi b hb⟩
  have hcp:∀b∈priv,b∉ι'/\b∉own (compEnvC scope cl Cd env)/\b∉kJ A/\G.hB.get? b=none:=λb hb=>⟨hpi b hb,pOwn b hb,(pFr b hb).2.1,(pFr b hb).2.2⟩
  rcases Nat.lt_or_ge i it.xs.length with hlt | hge
  ·obtain ⟨x,hx⟩:∃x,it.xs[i]? = some x:=⟨_,aal hlt⟩
   haveI hdrop:it.xs.drop i=x::it.xs.drop (i+1):=by
    rw [List.drop_eq_getElem_cons hlt];congr 1;rw [aal hlt] at hx;exact Option.some.inj hx
   rw [hdrop] at hcf
   obtain ⟨o,H2',zs',hstep,hg2,hrest,hz⟩:=D4 hcf
   obtain ⟨u,qa,hbx,hcase⟩:=yT hstep
   refine wpAny_mono (hI.item i x s' ι' H' _ _ hx hpre hpi P.rel.st hg' hst λv h' tk hk hv hst'=> ?_) (λr s₁ y=>by
    cases r with
    | none=>exact y.elim
    | some v=>exact y) λ_ _ y=>y
   obtain ⟨Pa,im⟩:=aY.off (tk:=tk) R P hp' (hI.mu _ _ hst) hk
   obtain ⟨Rc2,_⟩:=Rc.off (tk:=tk) hcp (hI.mu _ _ hst) hk
   have hpl2:h'.PlainList D yc.toArray:=hpl.at λo e=>hk D o (λhm=>(pNe D hm).1 rfl) e
   haveI hvr2:=hvr.mono (aam _) im
   haveI hA:=hb Cd A ι' ⟨gn caps q1.l,H'⟩ _ x v haC Rc2 hv
   rw [hbx] at hA
   refine hA _ _ λι2 _ s3 Pb _=> ?_
   have hT:=ht Cd A ι2 qa s3 haC Pb.rel
   have hcaps:∀y∈caps,qa.l y=q1.l y:=λy hy=>(hbd _ _ _ _ hbx y hy).trans (if_pos hy)
   have next:∀ {ι4:List Addr} {H4:Hp} {s4:Shared},aY A (compEnvC scope cl Cd env) ι' { s' with heap:=h',toks:=tk } ι4 ⟨qa.l,H4⟩ s4 ->
     CN A env (compEnvC scope cl Cd env) ι s q1.l (gn caps q1.l) St priv D Cd (i+1) ya yc ι4 H4 s4:=λ{ι4 H4 s4} Pc=>by
    have there:∀b o,h'.get? b=some o->b∉ι'->b∉ι4:=λb o e hn hm=>by
     rcases Pc.new b hm with h1 | h1
     ·exact hn h1
     ·have h1':h'.get? b=none:=h1
      rw [e] at h1';cases h1'
    refine ⟨aY.comp Z R Pa nC Rc2 Pc hcaps,Pc.rel.weaken λy v e=> ?_,hI.frame _ _ _ hst' λb hb o e=> ?_,λb hb=> ?_,?_,?_,?_,hvr2.mono Pc.pre (Rc2.imm Pc.kp)⟩
    ·obtain ⟨hy,e⟩:=uK e
     exact (hcaps y hy).trans e
    ·exact Pc.kp.ex b o e (λhm=>(aap.mp hm).elim (pOwn b hb) (hpi b hb)) (pFr b hb).2.1
    ·obtain ⟨o,e,_⟩:=hI.mu _ _ hst' b hb
     exact there b o e (hpi b hb)
    ·obtain ⟨n,e⟩:=hpl2
     exact there D _ e hDi
    ·obtain ⟨m,⟨o,es,ep,e,_⟩,_⟩:=Rc2.fr.loc
     exact there Cd o e hCi
    ·exact hpl2.at λo e=>Pc.kp.ex D o e (λhm=>(aap.mp hm).elim dOwn hDi) dF
   rcases hcase with ⟨htst,rfl⟩ | ⟨H3,y,htst,helt,rfl⟩
   ·rw [htst] at hT
    refine hT _ _ λι3 bb s4 Pt hbb=> ?_
    cases hbb
    simp only [Bool.false_eq_true,if_false]
    obtain ⟨a1,a2,a3,a4,a5,a6,a7,a8⟩:=next (Pb.trans Pt)
    exact ⟨it.xs.length+1-(i+1),vF 0x30113c192c01192c191c0c212 (aab (cu 0x191c190c010011 hi)) (sA _ _),toJ _ _ ⟨i+1,ι3,H2',ya,yc,zs',rfl,hlt,hpre.trans ((Pb.trans Pt).pre),a1,a2,a3,hg2,a4,a5,a6,a7,a8,Nat.le_succ_of_le hyl,hrest,by rw [<- hys,hz];rfl⟩⟩
   ·rw [htst] at hT
    refine hT _ _ λι3 bb s4 Pt hbb=> ?_
    cases hbb
    simp only [if_true]
    haveI hE:=he Cd A ι3 ⟨qa.l,H3⟩ s4 haC Pt.rel
    rw [helt] at hE
    refine hE _ _ λι4 cy s5 Pe hvy=> ?_
    obtain ⟨a1,a2,a3,a4,a5,a6,a7,a8⟩:=next ((Pb.trans Pt).trans Pe)
    haveI hyc:yc.length=ya.length:=a8.length
    refine wpAny_list_append_plain a7 (λh5 hpl5 hs5=> ?_) (by rw [aaR,hyc,sizeLine_eq];exact lh 0xb20120101010f4240a0013 hlen hi hyl)
    have hmD:∀b∈[D],∃o,s5.heap.get? b=some o/\DE o:=λb hb=>by simp at hb;subst hb;exact Di a7
    have hk5:∀b o,b∉[D]->s5.heap.get? b=some o->h5.get? b=some o:=λb o hb e=>hs5.extBut b o (λq=>hb (by simp [q])) e
    obtain ⟨P6,im6⟩:=aY.off (tk:=s5.toks) R a1 (priv:=[D]) (λb hb=>by simp at hb;subst hb;exact ⟨nD,a5⟩) hmD hk5
    obtain ⟨R6,_⟩:=a2.off (tk:=s5.toks) (priv:=[D]) (λb hb=>by simp at hb;subst hb;exact ⟨a5,dOwn,dF,dB⟩) hmD hk5
    haveI hpush:yc.toArray.push cy=(yc++[cy]).toArray:=by simp
    rw [hpush] at hpl5
    refine ⟨it.xs.length+1-(i+1),vF 0x30113c192c01192c191c0c212 (aab (cu 0x191c190c010011 hi)) (sA _ _),toJ _ _ ⟨i+1,ι4,H2',ya++[y],yc++[cy],zs',rfl,hlt,hpre.trans (((Pb.trans Pt).trans Pe).pre),P6,R6,hI.frame _ _ _ a3 λb hb o e=>hs5.extBut b o (pNe b hb).1 e,hg2,a4,a5,a6,hpl5,
     (a8.append (oY hvy yD)).mono (aam _) im6,by rw [aac];exact Nat.succ_le_succ hyl,hrest,by rw [<- hys,hz,aae];rfl⟩⟩
  ·haveI hi':i=it.xs.length:=aag (hi) (hge)
   subst hi'
   rw [List.drop_length] at hcf
   cases hcf
   rw [List.append_nil] at hys
   subst hys
   refine wpAny_mono (hI.done s' ι' Hf (λs₁=>RR (.ref D) Cd (.ok .next) s₁) _ hpre hpi P.rel.st hg' hst P.rel.hn λh' tk hk=> ?_) (λr s₁ y=> ?_) λ_ _ y=>y
   ·obtain ⟨P2,im⟩:=aY.off (tk:=tk) R P hp' (hI.mu _ _ hst) hk
    obtain ⟨Rc2,_⟩:=Rc.off (tk:=tk) hcp (hI.mu _ _ hst) hk
    haveI hpl2:h'.PlainList D yc.toArray:=hpl.at λo e=>hk D o (λhm=>(pNe D hm).1 rfl) e
    obtain ⟨m,hn,_⟩:=Rc2.fr.loc
    exact hRR ι' D Cd m _ (aY.join R P2 nD hDi ⟨yc,hpl2,hvr.mono (aav _ _) im⟩) P.rel.st.len nC (λhm=>(aap.mp hm).elim hCi λh1=>by simp at h1;exact hDC h1.symm) hn
   ·cases r with
    | none=>exact y
    | some v=>exact y.elim
 have hst1:St 0 h₁:=hI.frame _ _ _ h0 λb _ o e=>old b o e
 exact codeAny_compStart_list (loop _ rfl) (hI.self 0 _ _ _ hst1 (loop _ rfl))
theorem yS {mi:Cm It} {bd:V->Cm Unit} {tst:Cm Bool} {melt:Cm V} {it:It} {q1:S} (e:mi q= .ok it q1) :
  cC caps mi bd tst melt q= .stuck\/ ∃ys Hf,it.xs.length<=1000000/\fU it.g bd tst melt (gn caps q1.l) it.xs q1.H= .ok ys Hf/\cC caps mi bd tst melt q= .ok (.ref Hf.length) ⟨q1.l,Hf++[.list ys]⟩:=by
 unfold cC
 rw [fZ e]
 by_cases hl:it.xs.length<=1000000
 ·cases h:fU it.g bd tst melt (gn caps q1.l) it.xs q1.H with
  | ok ys Hf=>exact .inr ⟨ys,Hf,hl,rfl,if_pos hl⟩
  | _=>exact .inl (if_pos hl)
 ·exact .inl (if_neg hl)
theorem Ic {h:Heap} {a:Addr} {m:Str->Option Value} (x:h.Ns a m):∃o,h.get? a=some o/\DE o:=let ⟨o,es,ep,e,d,_⟩:=x;⟨o,e,.inr (.inl ⟨es,ep,d⟩)⟩
theorem eJ {elt target iter:Expr} {ifs:List Expr} {pos:Pos} (caps:List String) {mi:Cm It} {bd:V->Cm Unit} {tst:Cm Bool} {melt:Cm V} (hB:BH scope env caps=true) (hclos:closureFor scope env=pure (jS scope env))
  (hi:Hm hq k env target iter mi) (hb:∀L,tF hq k (compEnvC scope (jS scope env) L env) target bd) (hbd:DH caps bd) (ht:∀L,I0 hq k (compEnvC scope (jS scope env) L env) ifs tst)
  (he:∀L,Ev hq k (compEnvC scope (jS scope env) L env) elt melt) (hs:∀x,foldedSetIterable iter env x=pure x) :
  Ev hq k env (.ListComp elt [⟨target,iter,ifs,0⟩] scope pos) (cC caps mi bd tst melt):=by
 intro A ι q s ha R
 have Z:=fW.of hB
 refine aU.of λQ E hQ=> ?_
 rw [eval_ListComp]
 refine wpAny_comprehension_free (use:=none) rfl hs hclos Z.kind Z.names ?_
 have hi':=hi A ι q s ha R
 cases hmi:mi q with
 | stuck=>unfold cC at hQ;rw [cK hmi] at hQ;exact hQ.elim
 | exc c q1=>unfold cC at hQ;rw [g0 hmi] at hQ;rw [hmi] at hi';exact hi' _ _ hQ
 | ok it q1 =>
  rw [hmi] at hi'
  rcases yS (caps:=caps) (bd:=bd) (tst:=tst) (melt:=melt) hmi with hst | ⟨ys,Hf,hl,hc,hok⟩
  ·rw [hst] at hQ;exact hQ.elim
  ·rw [hok] at hQ
   refine hi' _ _ λι1 cv s1 P1 hr=> ?_
   refine bW λY9 y9=> ?_
   obtain ⟨⟨I,priv,St,rfl,h0,hp,_,hI⟩,hg⟩:=hr
   refine y9 ?_
   refine DO (RR:=λacc C=>compPost G.M A E none Q acc C) Z ha R hb hbd ht he P1 hI h0 hp (hg q1 rfl) hl hc λι' D Cd m' s' P hlen nC hCi hn=> ?_
   refine ⟨m',hn,λh' hs'=> ?_⟩
   obtain ⟨P2,_⟩:=aY.off (tk:=s'.toks) R P (priv:=[Cd]) (λb hb=>by simp at hb;subst hb;exact ⟨nC,hCi⟩) (λb hb=>by simp at hb;subst hb;exact Ic hn) λb o hb e=>hs'.extBut b o (λq=>hb (by simp [q])) e
   exact hQ _ (.ref D) _ P2 ⟨D,by rw [<- hlen];simp,rfl⟩
theorem wr {elt target iter:Expr} {ifs:List Expr} {pos py spos:Pos} {y:String} (caps:List String) {mi:Cm It} {bd:V->Cm Unit} {tst:Cm Bool} {melt:Cm V} (hB:BH scope env caps=true)
  (hclos:closureFor scope env=pure (jS scope env))
  (hi:Hm hq k env target iter mi) (hb:∀L,tF hq k (compEnvC scope (jS scope env) L env) target bd) (hbd:DH caps bd) (ht:∀L,I0 hq k (compEnvC scope (jS scope env) L env) ifs tst)
  (he:∀L,Ev hq k (compEnvC scope (jS scope env) L env) elt melt) (hs:∀x,foldedSetIterable iter env x=pure x)
  (hsw:swapsWith (.ListComp elt [⟨target,iter,ifs,0⟩] scope pos) (some (.Name (Str.ofString y) py)) spos.line env=pure true) (hy:env.kindOf (Str.ofString y)=some .local) :
  Ex hq k env (.Assign [.Name (Str.ofString y) py] (.ListComp elt [⟨target,iter,ifs,0⟩] scope pos) spos) ((cC caps mi bd tst melt).b λv=>(aL y v).b λ_=> .p .next):=by
 intro A ι q s ha R
 have Z:=fW.of hB
 refine aU.of λQ E hQ=> ?_
 rw [exec_Assign_Name_used _ _ _ _ hsw]
 refine wpAny_bind (wpAny_standAt (wpAny_bind ?_))
 show wpAny _ A (do let _ <- comprehension (.ListComp elt [⟨target,iter,ifs,0⟩] scope pos) scope env _ (newList []) false (eval iter env) (some (assign (.Name (Str.ofString y) py) env))) _ _ s
 refine wpAny_bind (wpAny_mono (wpAny_comprehension_free (use:=some (assign (.Name (Str.ofString y) py) env)) (Q:=λ_ s'=>Q .next s') rfl hs hclos Z.kind Z.names ?_) (λ_ s' hq=>wpAny_pure (wpAny_pure hq)) λ_ _ e=>e)
 have hi':=hi A ι q s ha R
 cases hmi:mi q with
 | stuck=>rw [cK (show cC caps mi bd tst melt q= .stuck by unfold cC;exact cK hmi)] at hQ;exact hQ.elim
 | exc c q1=>rw [g0 (show cC caps mi bd tst melt q= .exc c q1 by unfold cC;exact g0 hmi)] at hQ;rw [hmi] at hi';exact hi' _ _ hQ
 | ok it q1 =>
  rw [hmi] at hi'
  rcases yS (caps:=caps) (bd:=bd) (tst:=tst) (melt:=melt) hmi with hst | ⟨ys,Hf,hl,hc,hok⟩
  ·rw [cK hst] at hQ;exact hQ.elim
  ·rw [fZ hok] at hQ
   refine hi' _ _ λι1 cv s1 P1 hr=> ?_
   refine bW λY9 y9=> ?_
   obtain ⟨⟨I,priv,St,rfl,h0,hp,_,hI⟩,hg⟩:=hr
   refine y9 ?_
   refine DO (RR:=λacc C=>compPost G.M A E (some (assign (.Name (Str.ofString y) py) env)) (λ_ s'=>Q .next s') acc C) Z ha R hb hbd ht he P1 hI h0 hp (hg q1 rfl) hl hc λι' D Cd m' s' P hlen nC hCi hn=> ?_
   show wpAny _ A (assign (.Name (Str.ofString y) py) env (.ref D)) _ _ _
   refine wpAny_assign_Name (pG (v:= .ref Hf.length) (.inl hy) P.rel ⟨D,by rw [<- hlen];simp,rfl⟩ _ _ λι2 u s2 P2 _=> ?_)
   haveI P3:=P.trans P2
   have cO:=R.fresh3 nC
   refine bW λY9 y9=> ?_
   obtain ⟨oC,es,ep,eC,dC,r⟩:=hn
   refine y9 ?_
   have eC2:s2.heap.get? Cd=some oC:=P2.kp.ex Cd oC eC (λhm=>(aap.mp hm).elim cO.1 hCi) cO.2.1
   have hC2:Cd∉ι2:=λhm=>by
    rcases P2.new Cd hm with h1 | h1
    ·exact hCi h1
    ·rw [eC] at h1;cases h1
   refine ⟨m',⟨oC,es,ep,eC2,dC,r⟩,λh' hs'=> ?_⟩
   obtain ⟨P4,_⟩:=aY.off (tk:=s2.toks) R P3 (priv:=[Cd]) (λb hb=>by simp at hb;subst hb;exact ⟨nC,hC2⟩) (λb hb=>by simp at hb;subst hb;exact ⟨oC,eC2,.inr (.inl ⟨es,ep,dC⟩)⟩)
    λb o hb e=>hs'.extBut b o (λq=>hb (by simp [q])) e
   exact hQ _ .next _ P4 rfl
noncomputable def gr (i:Int):List V->List V
 | []=>[]
 | x::r=> .tup [.int i,x]::gr (i+1) r
theorem hH:∀(xs:List V) (i:Int),(gr i xs).length=xs.length
 | [],_=>rfl
 | x::r,i=>by rw [gr,aas,hH r,aas]
theorem wv:∀(xs:List V) (a:Int) (i:Nat) (y:V),(gr a xs)[i]? = some y-> ∃x,xs[i]? = some x/\y= .tup [.int (a+i),x]
 | [],a,i,y,e=>by simp [gr] at e
 | x::r,a,0,y,e=>by simp [gr] at e;exact ⟨x,rfl,by rw [<- e];simp⟩
 | x::r,a,i+1,y,e=>by
  simp [gr] at e
  obtain ⟨z,h1,h2⟩:=wv r (a+1) i y e
  exact ⟨z,by simpa using h1,by rw [h2];congr 3;push_cast;exact aaU (ge 0x190fc0c0f190cc80) (ge 0xf190cc190fc0c80)⟩
noncomputable def oD:List V->Cm It
 | [o]=>λq=>(match av o q.H with
  | some xs=> .ok ⟨gr 0 xs,λH=>av o H=some xs⟩ q
  | none=> .stuck)
 | _=> .stk
theorem Et (C:bL G) (hh:A.handled=none) {es:List Expr} {kk:Nat} {p:Pos} {e it l:Addr} {v:V} {xs:List V} (hv:∀ι',ι<+:ι'-> ∀h,aM ι' h v (.ref l)) (hei:e≠it) (hle:l≠e) (hli:l≠it) :
  IK A (.Tuple es kk p) e [e,it] ι ⟨gr 0 xs,λH=>av v H=some xs⟩ (λi h=>(∃old,IsEnum h e it (i:Nat) old)/\h.IsListIter it l i) where
 mu:=λi h st b hb=>by
  obtain ⟨⟨old,he⟩,hit⟩:=st
  simp at hb
  rcases hb with rfl | rfl
  ·exact ⟨_,he,.inl ⟨_,rfl,by decide⟩⟩
  ·exact fP hit
 frame:=λi h h' st hk=>⟨let ⟨old,he⟩:=st.1;⟨old,hk e (by simp) _ he⟩,st.2.at λo x=>hk it (by simp) o x⟩
 item:=λi x s ι' H Q E hx hpre hpi R hg st hQ=>by
  refine bW λY9 y9=> ?_
  obtain ⟨⟨old,he⟩,hit⟩:=st
  obtain ⟨xi,hxi,rfl⟩:=wv _ _ _ _ hx
  obtain ⟨a,vs,e',g1,g2⟩:=fO C R (hv ι' hpre s.heap) hg
  refine y9 ?_
  cases e'
  obtain ⟨cv,c1,c2⟩:=g2.get hxi
  refine wpAny_pyNext_enum_item he hit g1 (x:=cv) (by simpa using c1) hei λh' ho hit' hT hsz hk=> ?_
  refine wpAny_letOwnedTupleGo_enum ho λh'' he'' hs''=> ?_
  have hs2:Heap.SameBut e h' h'':=hs''
  have helt:e<s.heap.objs.size:=Heap.lt_size he
  have kk2:∀b o,b∉[e,it]->s.heap.get? b=some o->h''.get? b=some o:=λb o hb e'=>hs2.extBut b o (λq=>hb (by simp [q])) (hk b o (λq=>hb (by simp [q])) (λq=>hb (by simp [q])) e')
  haveI im:oi s.heap h'':=λb o e' hmu=>⟨o.slots,kk2 b o (λhb=>by
   simp at hb
   rcases hb with rfl | rfl
   ·rw [he] at e';cases e';exact hmu (.inl ⟨_,rfl,by decide⟩)
   ·obtain ⟨o',e2,m2⟩:=fP hit;rw [e'] at e2;cases e2;exact hmu m2) e'⟩
  refine hQ _ h'' _ kk2 ⟨_,[.int i s.toks,cv],rfl,⟨_,hs2.extBut _ _ (Nat.ne_of_gt helt) hT,rfl,_,rfl⟩,?_⟩ ⟨⟨cv,by simpa using he''⟩,hit'.at λo y=>hs2.extBut _ _ hei.symm y⟩
  exact oY ⟨s.toks,by simp⟩ (oY (c2.mono (aam _) im) yD)
 done:=λs ι' H Q E hpre hpi R hg st hn hQ=>by
  refine bW λY9 y9=> ?_
  obtain ⟨⟨old,he⟩,hit⟩:=st
  obtain ⟨a,vs,e',g1,g2⟩:=fO C R (hv ι' hpre s.heap) hg
  refine y9 ?_
  cases e'
  dsimp only at he hit
  rw [hH] at he hit
  refine wpAny_pyNext_enum_end hh he hit g1 (by simp [g2.length]) λh' hs=> ?_
  exact hQ h' s.toks λb o hb e'=>hs b o (λq=>hb (by simp [q])) e'
 self:=λi s Q E st hQ=>let ⟨⟨old,he⟩,_⟩:=st;wpAny_pyIter_enum he hQ
theorem Hs (C:bL G) (hh:A.handled=none) {es:List Expr} {kk:Nat} {p:Pos} (R:cL A env ι q s) {vs:List V} {cvs:List Value} (hv:aO ι s.heap vs cvs) :
  aU A env ι s (oD vs q) (λι' h it cv=>yL A (.Tuple es kk p) s.heap ι' h it cv/\ ∀q',oD vs q= .ok it q'->it.g q'.H)
   (λQ E s=>wpAny G.M A (call (.type "enumerate") cvs) (λx s₁=>wpAny G.M A (pyIter x) Q E s₁) E s):=by
 cases vs with
 | nil=>trivial
 | cons v vs =>
 cases vs with
 | cons _ _=>trivial
 | nil =>
  obtain ⟨cv,_,rfl,h1,e⟩:=hv;rw [show _=[] from e]
  unfold oD;dsimp only
  cases hi:av v q.H with
  | none=>trivial
  | some xs =>
   obtain ⟨l,vs,rfl,g1,g2⟩:=fO C R.st h1 hi
   intro Q E hQ
   have hl:l<s.heap.objs.size:=by obtain ⟨o,e,_⟩:=g1;exact Heap.lt_size e
   haveI hv2:∀ι',ι<+:ι'-> ∀h,aM ι' h v (.ref l):=λι' hp h=>ub hi h1 hp
   refine call_enumerate_list g1 λh' hE hL hsz hk=>wpAny_pyIter_enum hE ?_
   have n0:s.heap.get? s.heap.objs.size=none:=aaH (aaK _)
   have n1:s.heap.get? (s.heap.objs.size+1)=none:=aaH (b9 0x190c000)
   refine hQ ι _ _ (aY.stays (tk:=s.toks) R hk) ⟨⟨_,[s.heap.objs.size+1,s.heap.objs.size],_,rfl,⟨⟨_,by simpa using hE⟩,hL⟩,λb hb=> ?_,λ_ _=>trivial,
    Et C hh hv2 (Nat.succ_ne_self _) (Nat.ne_of_lt (Nat.lt_succ_of_lt hl)) (Nat.ne_of_lt hl)⟩,λq' e=> ?_⟩
   ·simp at hb
    rcases hb with rfl | rfl
    ·exact ⟨n1,(R.fresh_ne n1).1⟩
    ·exact ⟨n0,(R.fresh_ne n0).1⟩
   ·cases e;exact hi
theorem DM (C:bL G) (hh:hq=true) {ts:List Expr} {kk:Nat} {pt p pos:Pos} {es:List Expr} {m:Cm (List V)} (hx:env.kindOf (Str.ofString "enumerate")=some .globalImplicit)
  (hv:nsIn G.K mainGlobals (Str.ofString "enumerate")=some none) (h1:Bv hq k env es m) (hp:(backTo pos (starEach es env)).any (·.1)=false) :
  Hm hq k env (.Tuple ts kk pt) (.Call (.Name (Str.ofString "enumerate") p) es [] pos) (m.b λvs=>oD vs) :=
 GZ C hx hv (bv:= .type "enumerate") ∅ ∅ ∅ (kl _) h1 hp λA ι q s vs cvs ha R hv=>Hs C (ha.hd hh) R hv
end
section
variable {g:Hp->Prop} {bd:V->Cm Unit} {tst:Cm Bool} {elt:Cm V} {lc l1:bp} {H H2 H3:Hp} {v y:V} {u:Unit} {caps:List String}
theorem fH (h1:bd v ⟨lc,H⟩= .ok u ⟨l1,H⟩) (h2:tst ⟨l1,H⟩= .ok true ⟨l1,H2⟩) (h3:elt ⟨l1,H2⟩= .ok y ⟨l1,H3⟩):bM bd tst elt lc v H= .ok (some y) H3:=by
 unfold bM;rw [h1];dsimp only;rw [h2,ud];dsimp only;rw [h3,ud]
theorem gq (h1:bd v ⟨lc,H⟩= .ok u ⟨l1,H⟩) (h2:tst ⟨l1,H⟩= .ok false ⟨l1,H2⟩):bM bd tst elt lc v H= .ok none H2:=by
 unfold bM;rw [h1];dsimp only;rw [h2,ud]
theorem yR {r:List V} {o:Option V} {ys:List V} (h:bM bd tst elt lc v H= .ok o H2) (hg:g H2) (h2:fU g bd tst elt lc r H2= .ok ys H3):fU g bd tst elt lc (v::r) H= .ok (o.toList++ys) H3:=by
 rw [tL,h];dsimp only;rw [if_pos hg,h2]
theorem pJ {α β:Type} (φ : α->Option β) (x:α) (xs:List α):(φ x).toList++xs.filterMap φ = (x::xs).filterMap φ := by
 cases e : φ x with
 | none=>rw [List.filterMap_cons_none e];rfl
 | some z=>rw [List.filterMap_cons_some e];rfl
theorem fn (hg:g H) (φ : V->Option V):∀xs:List V,(∀x∈xs,bM bd tst elt lc x H= .ok (φ x) H)->fU g bd tst elt lc xs H= .ok (xs.filterMap φ) H
 | [],_=>rfl
 | x::xs,h=>by rw [yR (h x (.head _)) hg (fn hg φ xs λz hz=>h z (.tail _ hz)),pJ]
theorem fo {mi:Cm It} {it:It} {l:bp} {H1:Hp} {ys:List V} (h1:mi ⟨l,H⟩= .ok it ⟨l,H1⟩) (hl:it.xs.length<=1000000) (hc:fU it.g bd tst elt (gn caps l) it.xs H1= .ok ys H2) :
  cC caps mi bd tst elt ⟨l,H⟩= .ok (.ref H2.length) ⟨l,H2++[.list ys]⟩:=by
 unfold cC
 rw [fZ h1]
 dsimp only
 rw [if_pos hl,hc]
theorem Cr {l:bp} {x:String} (h:x∈caps):gn caps l x=l x:=if_pos h
end
noncomputable def bn:List Bool->Option Nat
 | []=>none
 | false::_=>some 0
 | true::r=>(bn r).map (· + 1)
theorem gw:∀ {bs:List Bool} {j:Nat},bn bs=some j->j<bs.length/\bs[j]? = some false
 | [],_,e=>by cases e
 | false::r,_,e=>by cases e;exact ⟨by simp,rfl⟩
 | true::r,j,e=>by
  obtain ⟨k,h1,rfl⟩:=Option.map_eq_some_iff.mp e
  obtain ⟨h2,h3⟩:=gw h1
  exact ⟨by simp;exact h2,by simpa using h3⟩
noncomputable def lG (a:Int):List Bool->List Int
 | []=>[]
 | false::r=>a::lG (a+1) r
 | true::r=>lG (a+1) r
section
variable {H:Hp} {i:Nat} {bs:List Bool} {l:bp}
theorem r0 {k:Int} {b:Bool} (h:H[i]? = some (.list (bs.map .bool))) (h0:0<=k) (h1:k<1000000) (hb:bs[k.toNat]? = some b):aJ (.ref i) (.int k) ⟨l,H⟩= .ok (.bool b) ⟨l,H⟩:=by
 unfold aJ;dsimp only;rw [h];dsimp only;rw [if_pos ⟨h0,h1⟩,abf,hb];rfl
theorem mY {k:Int} {b:Bool} (h:H[i]? = some (.list (bs.map .bool))) (h0:0<=k) (h1:k<1000000) (hb:k<bs.length):cY (.ref i) (.int k) (.bool b) ⟨l,H⟩= .ok () ⟨l,H.set i (.list ((bs.set k.toNat b).map .bool))⟩:=by
 unfold cY;dsimp only;rw [h];dsimp only;rw [if_pos ⟨h0,h1,by rw [aad];exact hb⟩,List.map_set]
theorem cE {xs:List V} (h:H[i]? = some (.list xs)) (hl:xs.length<1000000):dY [.ref i] ⟨l,H⟩= .ok (.int xs.length) ⟨l,H⟩:=by
 unfold dY;dsimp only;rw [h];exact if_pos hl
end
noncomputable def oF (bs:List Bool) (k:Int):Bool:=if 0<=k/\k<bs.length then (bs[k.toNat]?).getD false else false
noncomputable def Jk:V->Option V
 | .tup [.int i,.bool b]=>if b then none else some (.int i)
 | _=>none
theorem o8:∀(bs:List Bool) (a:Int),(gr a (bs.map V.bool)).filterMap Jk=(lG a bs).map V.int
 | [],_=>rfl
 | true::r,a=>o8 r (a+1)
 | false::r,a=>congrArg (V.int a :: ·) (o8 r (a+1))
theorem tP:∀(bs:List Bool) (a:Int) (x:V),x∈gr a (bs.map V.bool)-> ∃i b,x= .tup [.int i,.bool b]
 | [],_,_,h=>by cases h
 | b::r,a,x,h=>by
  rw [aaq,gr] at h
  rcases aai.mp h with rfl | h
  ·exact ⟨_,_,rfl⟩
  ·exact tP r _ x h
noncomputable def Jj:V->Option V
 | .bool true=>some (.bool true)
 | _=>none
theorem qV:∀bs:List Bool,(bs.map V.bool).filterMap Jj=List.replicate (bs.count true) (V.bool true)
 | []=>rfl
 | true::r=>by rw [aaq,List.filterMap_cons_some (by rfl),qV r,List.count_cons_self,List.replicate_succ]
 | false::r=>by rw [aaq,List.filterMap_cons_none (by rfl),qV r,List.count_cons_of_ne ∅]
noncomputable def AU (x:Int):List Int->List Int
 | []=>[x]
 | y::r=>if x<=y then x::y::r else y::AU x r
noncomputable def cD:List Int->List Int
 | []=>[]
 | x::r=>AU x (cD r)
theorem qT (x:Int):∀l:List Int,(AU x l).Perm (x::l)
 | []=> .refl _
 | y::r=>by
  unfold AU
  split
  ·exact .refl _
  ·exact ((qT x r).cons y).trans (.swap x y r)
theorem fk:∀l:List Int,(cD l).Perm l
 | []=> .refl _
 | x::r=>(qT x _).trans ((fk r).cons x)
theorem rK (x:Int):∀ {l:List Int},l.Pairwise (· <= ·)->(AU x l).Pairwise (· <= ·)
 | [],_=>by simp [AU]
 | y::r,h=>by
  unfold AU
  rw [aaI] at h
  split
  ·rename_i hxy
   refine aaI.mpr ⟨λz hz=> ?_,aaI.mpr h⟩
   rcases aai.mp hz with rfl | hz
   ·exact hxy
   ·exact aa8 hxy (h.1 z hz)
  ·rename_i hxy
   refine aaI.mpr ⟨λz hz=> ?_,rK x h.2⟩
   rcases aai.mp ((qT x r).mem_iff.mp hz) with rfl | hz
   ·exact Int.le_of_lt (Int.not_le.mp hxy)
   ·exact h.1 z hz
theorem lp:∀l:List Int,(cD l).Pairwise (· <= ·)
 | []=>by simp [cD]
 | x::r=>rK x (lp r)
theorem iT {a b:List Int} (p:a.Perm b) (h:a.Pairwise (· <= ·)):a=cD b:=lks_uniq (p.trans (fk b).symm) h (lp b)
noncomputable def dZ (a b:Int×Int):Bool:=if a.1==b.1 then decide (a.2<b.2) else decide (a.1<b.1)
theorem mL {a b:Int×Int}:dZ a b=false↔b.1<a.1\/(b.1=a.1/\b.2<=a.2):=by
 unfold dZ
 by_cases h:a.1=b.1
 ·rw [if_pos (beq_iff_eq.mpr h),decide_eq_false_iff_not]
  exact ⟨λx=> .inr ⟨h.symm,Int.not_lt.mp x⟩,λx=>x.elim (λx=>absurd h (Int.ne_of_gt x)) λx=>Int.not_lt.mpr x.2⟩
 ·rw [if_neg (by rw [beq_iff_eq];exact h),decide_eq_false_iff_not]
  exact ⟨λx=> .inl ((Int.lt_or_eq_of_le (Int.not_lt.mp x)).resolve_right λe=>h e.symm),λx=>x.elim (λx=>Int.not_lt.mpr (Int.le_of_lt x)) λx=>absurd x.1.symm h⟩
theorem B0 {a b c:Int×Int} (h1:dZ a b=false) (h2:dZ b c=false):dZ a c=false:=by
 rw [mL] at h1 h2 ⊢
 exact h1.elim (λx=> .inl (h2.elim (λy=>Int.lt_trans y x) λy=>y.1▸x)) λx=>h2.elim (λy=> .inl (x.1▸y)) λy=> .inr ⟨y.1.trans x.1,aa8 y.2 x.2⟩
theorem zC {a b:Int×Int} (h:dZ a b=true):dZ b a=false:=by
 rw [<- Bool.not_eq_false,mL] at h
 rw [mL]
 exact (Int.lt_trichotomy a.1 b.1).elim .inl λx=>x.elim (λe=> .inr ⟨e,(Int.le_total b.2 a.2).elim (λy=>absurd (.inr ⟨e.symm,y⟩) h) id⟩) λx=>absurd (.inl x) h
theorem HX {a b:Int×Int} (h1:dZ a b=false) (h2:dZ b a=false):a=b:=by
 rw [mL] at h1 h2
 exact h1.elim (λx=>h2.elim (λy=>absurd x (Int.not_lt.mpr (Int.le_of_lt y))) λy=>absurd y.1 (Int.ne_of_gt x)) λx=>h2.elim (λy=>absurd x.1 (Int.ne_of_gt y)) λy=>Prod.ext x.1.symm (aaU y.2 x.2)
abbrev wo (a b:Int×Int):Prop:=dZ b a=false
noncomputable def C7 (x:Int×Int):List (Int×Int)->List (Int×Int)
 | []=>[x]
 | y::r=>bif dZ y x then y::C7 x r else x::y::r
noncomputable def jt:List (Int×Int)->List (Int×Int)
 | []=>[]
 | x::r=>C7 x (jt r)
theorem wJ (x y:Int×Int) (r:List (Int×Int)):C7 x (y::r)=bif dZ y x then y::C7 x r else x::y::r:=rfl
theorem qU (x:Int×Int):∀l:List (Int×Int),(C7 x l).Perm (x::l)
 | []=> .refl _
 | y::r=>by
  rw [wJ]
  cases dZ y x with
  | true=>exact ((qU x r).cons y).trans (.swap x y r)
  | false=>exact .refl _
theorem iU:∀l:List (Int×Int),(jt l).Perm l
 | []=> .refl _
 | x::r=>(qU x _).trans ((iU r).cons x)
theorem rL (x:Int×Int):∀ {l:List (Int×Int)},l.Pairwise wo->(C7 x l).Pairwise wo
 | [],_=>abb _ _
 | y::r,h=>by
  obtain ⟨h1,h2⟩:=aaI.mp h
  rw [wJ]
  cases e:dZ y x with
  | true =>
   refine aaI.mpr ⟨λz hz=> ?_,rL x h2⟩
   rcases aai.mp ((qU x r).mem_iff.mp hz) with q | q
   ·rw [q];exact zC e
   ·exact h1 z q
  | false =>
   refine aaI.mpr ⟨λz hz=> ?_,h⟩
   rcases aai.mp hz with q | q
   ·rw [q];exact e
   ·exact B0 (h1 z q) e
theorem io:∀l:List (Int×Int),(jt l).Pairwise wo
 | []=> .nil
 | x::r=>rL x (io r)
theorem pA {a b:List (Int×Int)} (p:a.Perm b) (h:a.Pairwise wo):a=jt b :=
 List.Perm.eq_of_pairwise (λ_ _ _ _ h1 h2=>HX h2 h1) h (io b) (p.trans (iU b).symm)
noncomputable def oG:V->Option Int
 | .int i=>some i
 | _=>none
noncomputable def aw (p:Int×Int):V:= .tup [.int p.1,.int p.2]
noncomputable def Dj:V->Option (Int×Int)
 | .tup [.int a,.int b]=>some (a,b)
 | _=>none
theorem kK:∀ns:List Int,dt oG (ns.map V.int)=some ns
 | []=>rfl
 | n::ns=>by
  show (some n).bind (λd=>(dt oG (ns.map V.int)).map (d :: ·))=_
  rw [kK ns];rfl
theorem wQ:∀ps:List (Int×Int),dt Dj (ps.map aw)=some ps
 | []=>rfl
 | p::ps=>by
  show (some p).bind (λd=>(dt Dj (ps.map aw)).map (d :: ·))=_
  rw [wQ ps];rfl
theorem nK:∀ {xs:List V} {ns:List Int},dt oG xs=some ns->xs=ns.map V.int
 | [],_,e=>by cases e;rfl
 | x::xs,ns,e=>by
  obtain ⟨d,h1,h2⟩:=Option.bind_eq_some_iff.mp e
  obtain ⟨ds,h3,rfl⟩:=Option.map_eq_some_iff.mp h2
  cases x with
  | int i=>cases h1;rw [aaq,nK h3]
  | _=>cases h1
theorem Gw {x:V} {p:Int×Int} (e:Dj x=some p):x=aw p:=by
 cases x with
 | tup l =>
  cases l with
  | nil=>cases e
  | cons a l =>
  cases a with
  | int a =>
   cases l with
   | nil=>cases e
   | cons b l =>
   cases b with
   | int b =>
    cases l with
    | nil=>cases e;rfl
    | cons _ _=>cases e
   | _=>cases e
  | _=>cases e
 | _=>cases e
theorem zN:∀ {xs:List V} {ps:List (Int×Int)},dt Dj xs=some ps->xs=ps.map aw
 | [],_,e=>by cases e;rfl
 | x::xs,ns,e=>by
  obtain ⟨d,h1,h2⟩:=Option.bind_eq_some_iff.mp e
  obtain ⟨ds,h3,rfl⟩:=Option.map_eq_some_iff.mp h2
  rw [aaq,zN h3,Gw h1]
noncomputable def cj:List V->Cm V
 | [.ref i]=>λq=>(match q.H[i]? with
  | some (.dict es)=>if es.length<64 then .ok (.ref q.H.length) { q with H:=q.H++[.list ((cD (es.map (·.1))).map V.int)] } else .stuck
  | some (.list xs)=>(match dt oG xs with
   | some ns=>if ns.length<1000000 then .ok (.ref q.H.length) { q with H:=q.H++[.list ((cD ns).map V.int)] } else .stuck
   | none=>(match dt Dj xs with
    | some ps=>if ps.length<1000000 then .ok (.ref q.H.length) { q with H:=q.H++[.list ((jt ps).map aw)] } else .stuck
    | none=> .stuck))
  | _=> .stuck)
 | _=> .stk
section
variable {hq:Bool} {k:Nat} {env:Env} {A:Around} {ι ι':List Addr} {q q':S} {s s':Shared} {H H':Hp} {h:Heap}
theorem lC:∀ {ns:List Int} {vs:List Value},aO ι h (ns.map V.int) vs->IntsAre vs ns
 | [],_,e=>by rw [show _=[] from e];exact .nil
 | n::ns,_,⟨v,vs',e,⟨t,r⟩,b⟩=>by subst e;subst r;exact .cons n t (lC b)
theorem sk {h1:Heap} {vs:List Value} {out:Array Value} (hk:s.heap.StaysIn h1) :
  s.heap.StaysIn (sortedHeap (h1.push (seqObj "list" vs.toArray 0)) h1.objs.size vs out)/\ ∃e,(sortedHeap (h1.push (seqObj "list" vs.toArray 0)) h1.objs.size vs out).get? h1.objs.size=some (seqObj "list" out e):=by
 refine ⟨λb o e=> ?_,sortedHeap_at (n:=0) (aaM _ rfl)⟩
 have hb:=hk b o e
 have hlt:=Heap.lt_size hb
 rw [sortedHeap_old (Nat.ne_of_lt hlt) (by rw [size_push'];exact Nat.lt_succ_of_lt hlt)]
 exact aak _ hb
theorem aU.sortedI {ns:List Int} {T:PT Value} (R:cL A env ι q s)
  (hT:∀Q E,(∀h1 tk vs out ns',s.heap.StaysIn h1->IntsAre (Array.toList out) ns'->ns'.Perm ns->ns'.Pairwise (· <= ·)->Q (.ref h1.objs.size) { s with heap:=sortedHeap (h1.push (seqObj "list" (List.toArray vs) 0)) h1.objs.size vs out,toks:=tk })->T Q E s) :
  aU A env ι s (.ok (.ref q.H.length) { q with H:=q.H++[.list ((cD ns).map V.int)] }) (aM) T:=λQ E hQ=>by
 refine hT Q E λh1 tk vs out ns' hk hI hp hs=> ?_
 obtain ⟨st,e,he⟩:=sk (vs:=vs) (out:=out) hk
 obtain rfl:=iT hp hs
 haveI hn:s.heap.get? h1.objs.size=none:=by
  cases hx:s.heap.get? h1.objs.size with
  | none=>rfl
  | some o=>exact absurd (Heap.lt_size (hk _ _ hx)) (Nat.lt_irrefl _)
 refine hQ _ _ _ (aY.alloc R st hn ⟨out.toList,⟨e,by rw [Array.toArray_toList];exact he⟩,?_⟩) (gD R.st _)
 exact kL hI
theorem qQ:∀ {es:List (Int×V)} {kvs:List (Int×Value)},jL ι h es kvs->kvs.map (·.1)=es.map (·.1)
 | [],_,x=>by rw [show _=[] from x];rfl
 | _::_,_,⟨v,vs',q,_,b⟩=>by subst q;simp [qQ b]
theorem ua:∀ {kvs:List (Int×Value)} {vs:List Value},vs.length=kvs.length->(∀(j:Nat) (v:Value),vs[j]? = some v-> ∃k x,kvs[j]? = some (k,x)/\(intKind G.prog G.w).is k v=true)->IntsAre vs (kvs.map (·.1))
 | [],[],_,_=> .nil
 | [],_::_,e,_=>by simp at e
 | _::_,[],e,_=>by simp at e
 | (k,x)::kvs,v::vs,e,h=>by
  obtain ⟨k',x',h1,h2⟩:=h 0 v rfl
  simp at h1
  obtain ⟨rfl,rfl⟩:=h1
  obtain ⟨t,rfl⟩:=Value.isInt_shape h2
  exact .cons _ t (ua (by simpa using e) λj u hu=>by simpa using h (j+1) u (by simpa using hu))
def sF (h:Heap) (v:Value) (p:Int×Int):Prop:= ∃x t u,v= .ref x/\IsTup h x #[.int p.1 t,.int p.2 u]
theorem sF.uniq {v:Value} {p q:Int×Int} (a:sF h v p) (b:sF h v q):p=q:=by
 refine bW λY9 y9=> ?_
 obtain ⟨p1,p2⟩:=p
 obtain ⟨q1,q2⟩:=q
 obtain ⟨x,t,u,rfl,o,e1,_,m,e3⟩:=a
 obtain ⟨y,t',u',e,o',f1,_,m',f3⟩:=b
 cases e
 rw [e1] at f1
 cases f1
 rw [e3] at f3
 cases f3
 refine y9 ?_
 rfl
open Classical in
noncomputable def DF (h:Heap) (v:Value):Int×Int:=if c:∃p,sF h v p then c.choose else (0,0)
theorem sF.val {v:Value} {p:Int×Int} (a:sF h v p):DF h v=p:=by
 unfold DF
 rw [dif_pos ⟨p,a⟩]
 exact sF.uniq (Exists.choose_spec (p:=sF h v) ⟨p,a⟩) a
theorem CR {E:Value->Shared->Prop}:qG G.M A E { s with heap:=h } (λx y=>dZ (DF h x.1) (DF h y.1)) (λx=> ∃p,sF h x.1 p) (tuples' (Value.type "int" != Value.type "tuple")):=by
 refine ⟨⟨zC,B0⟩,λ{x y st Q} hx hy hk hQ=> ?_⟩
 refine bW λY9 y9=> ?_
 obtain ⟨p,hx⟩:=hx
 obtain ⟨q,hy⟩:=hy
 rw [hx.val,hy.val] at hQ
 obtain ⟨a,t,u,ea,o,oa,_,m,od⟩:=hx
 obtain ⟨b,t',u',eb,o',ob,_,m',od'⟩:=hy
 refine y9 ?_
 rw [lt'_eq]
 refine wpS_bind (wpS_get ?_)
 rw [hk,ea,eb]
 refine wpS_bind (wpS_lift (wpAny_attempt (kat_lt oa od ob od' ?_)))
 show KatLex _ _ _ _ _ _ [(_,_),(_,_)] 0 _
 refine kat_cons (wpAny_eqBool_int (kat_go (λe1=> ?_) λe1=> ?_))
 ·refine kat_yes (kat_cons (wpAny_eqBool_int (kat_go (λe2=> ?_) λe2=> ?_)))
  ·refine kat_yes (kat_nil ⟨rfl,wpS_pure ?_⟩)
   haveI:dZ p q=false:=by
    unfold dZ;rw [if_pos e1,beq_iff_eq.mp e2];exact decide_eq_false (Int.lt_irrefl _)
   rw [this] at hQ
   exact hQ
  ·refine kat_no (kat_one _ _ (PySem.P.lt_int ⟨rfl,wpS_pure ?_⟩))
   haveI:dZ p q=decide (p.2<q.2):=by unfold dZ;rw [if_pos e1]
   rw [this] at hQ
   exact hQ
 ·refine kat_no (oneLt_int ⟨rfl,wpS_pure ?_⟩)
  haveI:dZ p q=decide (p.1<q.1):=by unfold dZ;rw [if_neg (by rw [e1];exact aaF)]
  rw [this] at hQ
  exact hQ
theorem uE {h':Heap} (kp:∀b xs,IsTup h b xs->IsTup h' b xs):∀ {ps:List (Int×Int)} {vs:List Value},aO ι h (ps.map aw) vs->ps=vs.map (DF h')/\ ∀v∈vs,sF h' v (DF h' v)/\aM ι h (aw (DF h' v)) v
 | [],_,e=>by rw [show _=[] from e];exact ⟨rfl,λv hv=>by cases hv⟩
 | p::ps,_,⟨v,ws',rfl,hvp,hrest⟩=>by
  obtain ⟨h1,h2⟩:=uE kp hrest
  have hp:sF h' v p:=by
   refine bW λY9 y9=> ?_
   obtain ⟨x,us,rfl,ht,v1,us1,rfl,⟨t,rfl⟩,v2,us2,rfl,⟨u,rfl⟩,e⟩:=hvp
   refine y9 ?_
   rw [show us2=[] from e] at ht
   exact ⟨x,t,u,rfl,kp _ _ ht⟩
  refine ⟨by rw [aaq,hp.val,<- h1],λw hw=> ?_⟩
  rcases aai.mp hw with q | q
  ·rw [q,hp.val];exact ⟨hp,hvp⟩
  ·exact h2 w q
theorem zO {f:Value->Int×Int}:∀ {vs:List Value},(∀v∈vs,aM ι h (aw (f v)) v)->aO ι h ((vs.map f).map aw) vs
 | [],_=>yD
 | _::_,hv=>oY (hv _ (.head _)) (zO λv q=>hv v (.tail _ q))
theorem BW:∀ {vs:List Value},(∀v∈vs,∃p,sF h v p)-> ∃fs,A3 (KatTups h vs fs) (fs.length=vs.length) (∀v∈fs,∃i t,v= .int i t)
 | [],_=>⟨[],trivial,rfl,λv hv=>by cases hv⟩
 | v::vs,hv=>by
  refine bW λY9 y9=> ?_
  obtain ⟨fs,f1,f2,f3⟩:=BW λw q=>hv w (.tail _ q)
  obtain ⟨p,x,t,u,rfl,o,e1,e2,m,e3⟩:=hv v (.head _)
  refine y9 ?_
  refine ⟨.int p.1 t::fs,KatTups.cons e1 e2 e3 rfl f1,by rw [aas,aas,f2],λw hw=> ?_⟩
  rcases aai.mp hw with q | q
  ·exact ⟨_,_,q⟩
  ·exact f3 w q
theorem Az {α:Type}:∀l:List α,l.zip l=l.map λv=>(v,v)
 | []=>rfl
 | x::l=>by rw [List.zip_cons_cons,Az l];rfl
def Jv (h h':Heap):Prop:= ∀b xs,IsTup h b xs->IsTup h' b xs
theorem pP {a:Addr} {vs:List Value} {n:Nat} {P:PySem.Fin->Shared->Prop} {E:Value->Shared->Prop} (ho:s.heap.get? a=some (seqObj "list" vs.toArray n))
  (ha:∀(b:Addr) (xs:Array Value),IsTup s.heap b xs->b≠a) (hl:vs.length<1000000) {lt:Heap->Keyed->Keyed->Bool} {ok:Heap->Keyed->Prop} {κ:SortKind}
  (hv:∀h,Jv s.heap h-> ∀v∈vs,ok h (v,v)) (an:∀h,qG G.M A E { s with heap:=h } (lt h) (ok h) κ)
  (hk:∀h,Jv s.heap h->2<=vs.length-> ∀Q:SortKind->Shared->Prop,Q κ { s with heap:=h }->wpAny G.M A (keyKind' vs.toArray) Q E { s with heap:=h })
  (hP:∀h,Jv s.heap h-> ∀l:List Keyed,qF (lt h) (vs.map λv=>(v,v)) l-> ∀out:Array Value,out.toList=l.map (·.2)->P (.done (.ret .none)) { s with heap:=sortedHeap s.heap a vs out }) :
  wpAny G.M A (Builtin.«list.sort» ⟨[.ref a],[]⟩) P E s:=by
 rw [list_sort_plain]
 have hlt:a<s.heap.objs.size:=Heap.lt_size ho
 refine wpAny_bind (listItems_at ho rfl ?_)
 refine wpAny_bind (listUpdate_at ho rfl ?_)
 obtain ⟨e1,ho1⟩:∃e1,(s.heap.update a (Obj.mapSeq λ_ => #[])).get? a=some (seqObj "list" #[] e1):=⟨_,get?_update_seq ho (λ_ => #[])⟩
 refine wpAny_bind (seqEpoch_at ho1 rfl ?_)
 refine wpAny_bind (wpAny_newTuple ?_)
 refine wpAny_bind (wpAny_newList ?_)
 refine wpAny_holding ?_
 have ho6:(((s.heap.update a (Obj.mapSeq λ_ => #[])).push (seqObj "tuple" vs.toArray 0)).push (seqObj "list" #[] 0)).get? a=some (seqObj "list" #[] e1):=by
  rw [Heap.get?_push_ne _ _ _ (by rw [size_push',Heap.size_update];exact Nat.ne_of_lt (Nat.lt_succ_of_lt hlt)),Heap.get?_push_ne _ _ _ (by rw [Heap.size_update];exact Nat.ne_of_lt hlt)]
  exact ho1
 show wpAny G.M A _ P E { s with heap:=((s.heap.update a (Obj.mapSeq λ_ => #[])).push (seqObj "tuple" vs.toArray 0)).push (seqObj "list" #[] 0) }
 generalize hh6:(((s.heap.update a (Obj.mapSeq λ_ => #[])).push (seqObj "tuple" vs.toArray 0)).push (seqObj "list" #[] 0))=h6 at ho6 ⊢
 have kp:Jv s.heap h6:=λb xs ht=>by
  haveI hb:=ha b xs ht
  refine bW λY9 y9=> ?_
  obtain ⟨o,e1,e2,m,e3⟩:=ht
  refine y9 ?_
  refine ⟨o,?_,e2,m,e3⟩
  rw [<- hh6]
  refine aak _ (aak _ ?_)
  rw [Heap.get?_update_ne _ _ _ _ hb];exact e1
 haveI iG:∀out:Array Value,h6.update a (Obj.mapSeq λ_=>out)=sortedHeap s.heap a vs out:=λout=>by rw [<- hh6];rfl
 have ez:(vs.toArray.zip vs.toArray).toList=vs.map λv=>(v,v):=by rw [Array.toList_zip];exact Az vs
 dsimp only
 have run:∀st:SortSt,failedOf st=none->qF (lt h6) (vs.map λv=>(v,v)) (arrOf st).toList->wpAny G.M A (do
   let e <- seqEpoch a
   Builtin.List.listUpdate (.ref a) λ_=>(arrOf st).map (·.2)
   if let some e:=failedOf st then rule "list.sort.comparison-raised"; throw e
   if e != e1 then rule "list.sort.modified"; raiseError "ValueError" "list modified during sort"
   ret .none) P E { s with heap:=h6 }:=λst hf hm=>by
  haveI o1:(arrOf st).toList.length<1000000:=by rw [hm.2.length_eq,aad];exact hl
  refine wpAny_bind (seqEpoch_at (s:={ s with heap:=h6 }) ho6 rfl ?_)
  refine wpAny_bind (listUpdate_at (s:={ s with heap:=h6 }) ho6 rfl ?_ (hsz2:=by rw [Array.size_map,<- aa5,sizeLine_eq];exact aao (Nat.le_of_lt o1) ∅))
  rw [hf]
  simp only [bne_self_eq_false,Bool.false_eq_true,if_false]
  refine wpAny_pure ?_
  show P _ { s with heap:=h6.update a (Obj.mapSeq λ_=>(arrOf st).map (·.2)) }
  rw [iG]
  exact hP h6 kp _ hm _ (Array.toList_map ..)
 by_cases h2:vs.toArray.size<2
 ·rw [if_pos h2,if_pos h2]
  refine wpAny_bind (wpAny_pure ?_)
  rw [StateT.run_pure]
  refine wpAny_bind (wpAny_pure ?_)
  refine run (SortSt.mk' general' (vs.toArray.zip vs.toArray) #[] 7 none) rfl ?_
  show qF (lt h6) _ (vs.toArray.zip vs.toArray).toList
  rw [ez]
  refine ⟨?_,.refl _⟩
  match vs,h2 with
  | [],_=>exact .nil
  | [_],_=>exact abb _ _
  | _::_::_,h2=>exact absurd h2 (Nat.not_lt.mpr (Nat.le_add_left _ _))
 ·rw [if_neg h2,if_neg h2]
  refine wpAny_bind (hk h6 kp (by rw [aaR] at h2;exact Nat.le_of_not_lt h2) _ ?_)
  refine wpAny_bind (wpAny_mono (DB (an h6) (W:=(vs.toArray.zip vs.toArray).toList) (st:=SortSt.mk' κ (vs.toArray.zip vs.toArray) #[] 7 none) (λx hx=> ?_) rfl rfl rfl rfl
   (Q:=λ_ st'=>failedOf st'=none/\qF (lt h6) (vs.map λv=>(v,v)) (arrOf st').toList) λc st' hf hc hm=>⟨hf,by rw [hc,<- ez];exact hm⟩) ?_ λ_ _ e=>e)
  ·rw [ez] at hx
   obtain ⟨v,hm,e⟩:=aaf.mp hx
   rw [<- e];exact hv h6 kp v hm
  ·rintro ⟨⟨⟩,st'⟩ s' ⟨rfl,hf,hm⟩
   exact run st' hf hm
theorem zG {lt:Keyed->Keyed->Bool} {vs:List Value} {l:List Keyed} (hm:qF lt (vs.map λv=>(v,v)) l):(l.map (·.2)).Perm vs/\ ∀x∈l,x.1=x.2:=by
 refine ⟨?_,λx hx=> ?_⟩
 ·haveI:=hm.2.map (·.2)
  rw [aaV,show ((λx:Keyed=>x.2)∘λv:Value=>(v,v))=id from rfl,List.map_id] at this
  exact this
 ·obtain ⟨v,_,e⟩:=aaf.mp (hm.2.mem_iff.mp hx)
  rw [<- e]
theorem sJ {a:Addr} {vs:List Value} {n:Nat} {P:PySem.Fin->Shared->Prop} {E:Value->Shared->Prop} {ps:List (Int×Int)} (ho:s.heap.get? a=some (seqObj "list" vs.toArray n)) (hv:aO ι s.heap (ps.map aw) vs)
  (ha:∀(b:Addr) (xs:Array Value),IsTup s.heap b xs->b≠a) (hl:vs.length<1000000)
  (hP:∀out:Array Value,aO ι s.heap ((jt ps).map aw) out.toList->P (.done (.ret .none)) { s with heap:=sortedHeap s.heap a vs out }) :
  wpAny G.M A (Builtin.«list.sort» ⟨[.ref a],[]⟩) P E s:=by
 refine pP ho ha hl (lt:=λh x y=>dZ (DF h x.1) (DF h y.1)) (λh kp v q=>⟨_,((uE kp hv).2 v q).1⟩) (λh=>CR) (λh kp h2 Q hQ=> ?_) λh kp l hm out e=>hP out ?_
 ·refine bW λY9 y9=> ?_
  obtain ⟨fs,f1,f2,f3⟩:=BW λv q=>⟨_,((uE kp hv).2 v q).1⟩
  refine y9 ?_
  exact kat_kind (s:={ s with heap:=h }) (T:= .type "int") f1 (by rw [f2];exact aa9 ∅ h2) (λv hv=>by obtain ⟨i,t,rfl⟩:=f3 v hv;exact .now) rfl hQ
 ·obtain ⟨hp2,e12⟩:=zG hm
  haveI es:(l.map (·.2)).map (DF h)=jt ps:=by
   refine pA (by rw [(uE kp hv).1];exact hp2.map _) ?_
   rw [aaV]
   refine aaP.mpr (hm.1.imp_of_mem λ{x y} hx hy h=> ?_)
   show dZ (DF _ y.2) (DF _ x.2)=false
   rw [<- e12 x hx,<- e12 y hy];exact h
  rw [<- es,e]
  exact zO λv q=>((uE kp hv).2 v (hp2.mem_iff.mp q)).2
noncomputable def F9:Value->Int
 | .int i _=>i
 | _=>0
theorem DR {E:Value->Shared->Prop}:qG G.M A E s (λx y=>decide (F9 x.1<F9 y.1)) (λx=> ∃i t,x.1= .int i t) oneType':=by
 refine ⟨⟨λh=>decide_eq_false (Int.not_lt.mpr (Int.le_of_lt (of_decide_eq_true h))),λh1 h2=>decide_eq_false (Int.not_lt.mpr (aa8 (Int.not_lt.mp (of_decide_eq_false h2)) (Int.not_lt.mp (of_decide_eq_false h1))))⟩,λ{x y st Q} hx hy hk hQ=> ?_⟩
 obtain ⟨i,t,ex⟩:=hx
 obtain ⟨j,u,ey⟩:=hy
 rw [ex,ey] at hQ
 rw [lt'_eq]
 refine wpS_bind (wpS_get ?_)
 rw [hk,ex,ey]
 exact wpS_bind (wpS_lift (wpAny_attempt (oneLt_int ⟨rfl,wpS_pure hQ⟩)))
theorem F8 {vs:List Value} (h:∀v∈vs,∃i t,v= .int i t):IntsAre vs (vs.map F9):=by
 induction vs with
 | nil=>exact .nil
 | cons v vs ih =>
  obtain ⟨i,t,rfl⟩:=h v (.head _)
  exact .cons i t (ih λw q=>h w (.tail _ q))
theorem BS:∀ {vs:List Value} {ns:List Int},IntsAre vs ns->ns=vs.map F9/\ ∀v∈vs,∃i t,v= .int i t
 | _,_,.nil=>⟨rfl,λv hv=>(nomatch hv)⟩
 | _,_,.cons i t h=>by
  obtain ⟨h1,h2⟩:=BS h
  refine ⟨by rw [aaq,<- h1];rfl,λw hw=> ?_⟩
  rcases aai.mp hw with q | q
  ·exact ⟨_,_,q⟩
  ·exact h2 w q
theorem uj {a:Addr} {vs:List Value} {n:Nat} {P:PySem.Fin->Shared->Prop} {E:Value->Shared->Prop} {ns:List Int} (ho:s.heap.get? a=some (seqObj "list" vs.toArray n)) (hI:IntsAre vs ns) (hl:vs.length<1000000)
  (hP:∀(out:Array Value) (ns':List Int),IntsAre out.toList ns'->ns'.Perm ns->ns'.Pairwise (· <= ·)->P (.done (.ret .none)) { s with heap:=sortedHeap s.heap a vs out }) :
  wpAny G.M A (Builtin.«list.sort» ⟨[.ref a],[]⟩) P E s:=by
 obtain ⟨e1,e2⟩:=BS hI
 refine pP ho (λb xs ht e=> ?_) hl (lt:=λ_ x y=>decide (F9 x.1<F9 y.1)) (ok:=λ_ x=> ∃i t,x.1= .int i t) (λh kp v q=>e2 v q) (λh=>DR) (λh kp h2 Q hQ=> ?_) λh kp l hm out e=> ?_
 ·obtain ⟨o,g1,g2,_⟩:=ht
  rw [e,ho] at g1;cases g1
  exact absurd (show Value.type "list" = Value.type "tuple" from g2) ∅
 ·match vs,hI,h2 with
  | _::_::_,hI,_=>rw [keyKind_ints hI];exact wpAny_pure hQ
 ·obtain ⟨hp2,e12⟩:=zG hm
  refine hP out ((l.map (·.2)).map F9) ?_ (by rw [e1];exact hp2.map _) ?_
  ·rw [e];exact F8 λv q=>e2 v (hp2.mem_iff.mp q)
  ·rw [aaV]
   refine aaP.mpr (hm.1.imp_of_mem λ{x y} hx hy h=> ?_)
   show F9 x.2<=F9 y.2
   rw [<- e12 x hx,<- e12 y hy];exact Int.not_lt.mp (of_decide_eq_false h)
end
noncomputable def dn (ns:List Int):Int:=preSum (λi=>ns.getD i 0) ns.length
theorem dk (n:Int) (ns:List Int):dn (n::ns)=n+dn ns:=by
 unfold dn
 rw [aas,kdu_shift]
 rfl
noncomputable def yq:List V->Cm V
 | [.ref i]=>λq=>(match q.H[i]? with
  | some (.list xs)=>(match dt oG xs with
   | some ns=>if ns.length<=1000000 then .ok (.int (dn ns)) q else .stuck
   | none=> .stuck)
  | _=> .stuck)
 | _=> .stk
section
variable {hq:Bool} {k:Nat} {env:Env} {A:Around} {ι ι':List Addr} {q q':S} {s s':Shared} {H H':Hp} {h:Heap}
theorem zt {vs:List Value} {ns:List Int} (hI:IntsAre vs ns):∀(i:Nat) (v:Value),vs[i]? = some v-> ∃t,v= .int (ns.getD i 0) t:=by
 induction hI with
 | nil=>intro i v e;simp at e
 | cons n t r ih =>
  intro i v e
  cases i with
  | zero=>simp at e;exact ⟨t,by rw [<- e];rfl⟩
  | succ i=>simpa using ih i v (by simpa using e)
theorem IX (hh:A.handled=none) (R:cL A env ι q s) {vs:List V} {cvs:List Value} (hv:aO ι s.heap vs cvs):aU A env ι s (yq vs q) (aM) (mh A (call (.builtin "sum") cvs)):=by
 cases vs with
 | nil=>trivial
 | cons v vs =>
 cases vs with
 | cons _ _=>cases v<;>trivial
 | nil =>
 cases v with
 | ref i =>
  obtain ⟨cv,_,rfl,⟨a,hi,rfl⟩,e⟩:=hv;rw [show _=[] from e]
  unfold yq;dsimp only
  cases hx:q.H[i]? with
  | none=>trivial
  | some o =>
  cases o with
  | list xs =>
   dsimp only
   cases hn:dt oG xs with
   | none=>trivial
   | some ns =>
    dsimp only
    split
    ·rename_i hl
     obtain rfl:=nK hn
     obtain ⟨a1,n1,ws,g1,g2,g3⟩:=R.st.list hx
     obtain rfl:a=a1:=Option.some.inj (hi.symm.trans g1)
     have hI:=lC g3
     haveI hL:s.heap.IsList a ws.toArray:=⟨_,g2,rfl,n1,rfl⟩
     have hlt:a<s.heap.objs.size:=Heap.lt_size g2
     intro Q E hQ
     refine call_sum_walkAnyS (wpAny_pyIter_list hL ?_)
     refine ⟨s.heap.objs.size,_,_,_,_,_,_,λi=>ns.getD i 0,rfl,(Walks.list (prog:=G.prog) (w:=G.w) (A:=A.in1) hh s.heap.objs.size a (Nat.ne_of_lt hlt) ws.toArray).toS,⟨⟨_,aaM _ rfl,rfl,rfl⟩,⟨_,aak _ g2,rfl,n1,rfl⟩⟩,λb hb=> ?_,λi v e=> ?_,λs' t' hm=> ?_⟩
     ·show b<(s.heap.push _).objs.size
      rw [Heap.size_push]
      rcases aai.mp hb with e | hb
      ·rw [e];exact Nat.lt_succ_self _
      ·rw [aaj.mp hb];exact Nat.lt_succ_of_lt hlt
     ·exact zt hI i v (by simpa using e)
     ·haveI hk:s.heap.StaysIn s'.heap:=λb o e =>
       hm.heap b o (λhI=>absurd (Heap.lt_size e) (by rw [aaj.mp hI];exact Nat.lt_irrefl _)) (aak _ e)
      haveI hlen:ws.toArray.size=ns.length:=by rw [aaR,IntsAre.length hI]
      rw [Moved.eq_with hm,hlen]
      exact hQ ι _ _ (aY.stays (tk:=s'.toks) R hk) ⟨t',rfl⟩
    ·trivial
  | _=>trivial
 | _=>trivial
theorem Bl {h1:Heap} {vs:List Value} {out:Array Value}:oi (h1.push (seqObj "list" vs.toArray 0)) (sortedHeap (h1.push (seqObj "list" vs.toArray 0)) h1.objs.size vs out):=λb o e hmu=>by
 by_cases hb:b=h1.objs.size
 ·subst hb
  have:(h1.push (seqObj "list" vs.toArray 0)).get? h1.objs.size=some (seqObj "list" vs.toArray 0):=aaM _ rfl
  rw [this] at e;cases e
  exact absurd (.inl ⟨"list",rfl,by decide⟩) hmu
 ·exact ⟨o.slots,by rw [sortedHeap_old hb (Heap.lt_size e)];exact e⟩
theorem sq {a:Addr} {ws:List Value} (hL:s.heap.IsList a ws.toArray) (hl:ws.length<1000000) {Q:Value->Shared->Prop} {E:Value->Shared->Prop}
  (h:∀(A':Around) (h1:Heap) (P:PySem.Fin->Shared->Prop),s.heap.StaysIn h1->h1.objs.size=s.heap.objs.size+1->(h1.push (seqObj "list" ws.toArray 0)).get? h1.objs.size=some (seqObj "list" ws.toArray 0) ->
   (∀out:Array Value,Q (.ref h1.objs.size) { s with heap:=sortedHeap (h1.push (seqObj "list" ws.toArray 0)) h1.objs.size ws out }->P (.done (.ret .none)) { s with heap:=sortedHeap (h1.push (seqObj "list" ws.toArray 0)) h1.objs.size ws out }) ->
   wpAny G.M A' (Builtin.«list.sort» ⟨[.ref h1.objs.size],[]⟩) P E { s with heap:=h1.push (seqObj "list" ws.toArray 0) }):wpAny G.M A (call (.builtin "sorted") [.ref a]) Q E s:=by
 haveI hk1:s.heap.StaysIn ((s.heap.push (seqObj "list" #[] 0)).update s.heap.objs.size (Obj.mapSeq (· ++ ws.toArray))):=λb o e=>by
  rw [Heap.get?_update_ne _ _ _ _ (Nat.ne_of_lt (Heap.lt_size e))];exact aak _ e
 haveI hs1:((s.heap.push (seqObj "list" #[] 0)).update s.heap.objs.size (Obj.mapSeq (· ++ ws.toArray))).objs.size=s.heap.objs.size+1:=by rw [Heap.size_update,size_push']
 refine Calls.call_function_entry kind_sorted plain_sorted entry_sorted (args_sorted1 _) ?_
 unfold Builtin.«sorted»
 refine wpAny_bind (m:=checkCount "sorted" 1 1 _) (wpAny_pure ?_)
 refine wpAny_bind (collect_list hL ?_ (by rw [sizeLine_eq];exact aao (Nat.le_of_lt hl) ∅))
 refine wpAny_bind (wpAny_newList ?_ (by rw [sizeLine_eq];exact aao (Nat.le_of_lt hl) ∅))
 generalize (s.heap.push (seqObj "list" #[] 0)).update s.heap.objs.size (Obj.mapSeq (· ++ ws.toArray))=h1 at hk1 hs1
 have hoL:(h1.push (seqObj "list" ws.toArray 0)).get? h1.objs.size=some (seqObj "list" ws.toArray 0):=aaM _ rfl
 show wpAny _ _ _ _ _ { s with heap:=h1.push (seqObj "list" ws.toArray 0) }
 exact wpAny_bind (wpAny_holding (wpAny_call_entry slot_list_sort ⟨_,hoL,rfl⟩ entry_list_sort (h _ h1 _ hk1 hs1 hoL λout q=>⟨_,rfl,wpAny_pure ⟨_,rfl,q⟩⟩) (args_list_sort _)))
theorem DQ (C:bL G) (hh:A.handled=none) (R:cL A env ι q s) {vs:List V} {cvs:List Value} (hv:aO ι s.heap vs cvs):aU A env ι s (cj vs q) (aM) (mh A (call (.builtin "sorted") cvs)):=by
 cases vs with
 | nil=>trivial
 | cons v vs =>
 cases vs with
 | cons _ _=>cases v<;>trivial
 | nil =>
 cases v with
 | ref i =>
  obtain ⟨cv,_,rfl,⟨a,hi,rfl⟩,e⟩:=hv;rw [show _=[] from e]
  unfold cj;dsimp only
  cases hx:q.H[i]? with
  | none=>trivial
  | some o =>
  cases o with
  | dict es =>
   dsimp only
   split
   ·rename_i hl
    obtain ⟨a1,kvs,g1,g2,g3⟩:=R.st.dict hx
    obtain rfl:a=a1:=Option.some.inj (hi.symm.trans g1)
    haveI hm:=rX C R.st (aaE g1)
    have hlen:kvs.length=es.length:=by haveI:=congrArg List.length (qQ g3);simpa using this
    obtain ⟨ep,hat⟩:=g2.dictAt
    refine aU.sortedI (ns:=es.map (·.1)) R λQ E hQ=> ?_
    refine Calls.call_function_entry kind_sorted plain_sorted entry_sorted (args_sorted1 _) ?_
    unfold Builtin.«sorted»
    refine wpAny_bind (m:=checkCount "sorted" 1 1 _) (wpAny_pure ?_)
    refine wpAny_bind (kdu_collect (A:=A.in1) (kdl_dict (knd:=intKind G.prog G.w) (kvs:=kvs) (ep:=ep) hm) hh hat (by rw [hlen,sizeLine_eq];exact b9 0xb00000040a0111 hl) λh1 tk acc hk hacc=> ?_)
    have hI:IntsAre acc.toList (es.map (·.1)):=by
     rw [<- qQ g3]
     exact ua (by rw [aa5];exact hacc.1) λj v e=>hacc.2 j v (by rw [<- aaB];exact e)
    have hal:acc.toList.length<64:=by rw [aa5,hacc.1,hlen];exact hl
    refine wpAny_bind (wpAny_newList ?_ (by rw [sizeLine_eq];exact b9 0xb00000040a0111 hal))
    have hoL:(h1.push (seqObj "list" acc.toList.toArray 0)).get? h1.objs.size=some (seqObj "list" acc.toList.toArray 0):=aaM _ rfl
    refine wpAny_bind (wpAny_holding (wpAny_call_entry slot_list_sort ⟨_,hoL,rfl⟩ entry_list_sort (list_sort_tree (s:={ s with heap:=h1.push (seqObj "list" acc.toList.toArray 0),toks:=tk }) hoL hI hal λout ns' a1 a2 a3=>⟨_,rfl,?_⟩) (args_list_sort _)))
    exact wpAny_pure ⟨_,rfl,hQ h1 tk acc.toList out ns' hk a1 a2 a3⟩
   ·trivial
  | list xs =>
   obtain ⟨a1,n1,ws,g1,g2,g3⟩:=R.st.list hx
   obtain rfl:a=a1:=Option.some.inj (hi.symm.trans g1)
   have hL:s.heap.IsList a ws.toArray:=⟨_,g2,rfl,n1,rfl⟩
   dsimp only
   cases hn:dt oG xs with
   | some ns =>
    dsimp only
    split
    ·rename_i hl
     obtain rfl:=nK hn
     haveI hI:=lC g3
     have hwl:ws.length<1000000:=by rw [IntsAre.length hI];exact hl
     exact aU.sortedI (ns:=ns) R λQ E hQ=>sq hL hwl λA' h1 P hk1 hs1 hoL hP=>uj (s:={ s with heap:=h1.push (seqObj "list" ws.toArray 0) }) hoL hI hwl λout ns' a1 a2 a3=>hP out (hQ h1 s.toks ws out ns' hk1 a1 a2 a3)
    ·trivial
   | none =>
    dsimp only
    cases hp:dt Dj xs with
    | none=>trivial
    | some ps =>
     dsimp only
     split
     ·rename_i hl
      obtain rfl:=zN hp
      have hwl:ws.length<1000000:=by rw [g3.length,aad];exact hl
      intro Q E hQ
      refine sq hL hwl λA' h1 P hk1 hs1 hoL hP=> ?_
      haveI hk2:s.heap.StaysIn (h1.push (seqObj "list" ws.toArray 0)):=λb o e=>aak _ (hk1 b o e)
      refine sJ (s:={ s with heap:=h1.push (seqObj "list" ws.toArray 0) }) (ι:=ι) hoL (g3.mono (aam _) (.of_stays hk2)) (λb xs ht e=> ?_) hwl λout hvr=>hP out ?_
      ·obtain ⟨o,e1,e2,_⟩:=ht
       rw [e,hoL] at e1;cases e1
       exact absurd (show Value.type "list" = Value.type "tuple" from e2) ∅
      ·obtain ⟨st,e,he⟩:=sk (vs:=ws) (out:=out) hk1
       haveI hn:s.heap.get? h1.objs.size=none:=aaH (by rw [hs1];exact Nat.le_succ _)
       refine hQ _ _ _ (aY.alloc (tk:=s.toks) R st hn ⟨out.toList,⟨e,by rw [Array.toArray_toList];exact he⟩,?_⟩) (gD R.st _)
       exact hvr.mono (aav _ _) Bl
     ·trivial
  | _=>trivial
 | _=>trivial
noncomputable def j4:List V->Cm V
 | [.ref i]=>λq=>(match q.H[i]? with
  | some (.list xs)=>(match dt oG xs with
   | some ns=>if ns.length<64 then .ok (.ref q.H.length) { q with H:=q.H++[.list ((cD ns).reverse.map V.int)] } else .stuck
   | none=> .stuck)
  | _=> .stuck)
 | _=> .stk
theorem CP (R:cL A env ι q s) {vs:List V} {cvs:List Value} (hv:aO ι s.heap vs cvs):aU A env ι s (j4 vs q) (aM) (mh A (call (.builtin "sorted") cvs [(Str.ofString "reverse",.bool true)])):=by
 cases vs with
 | nil=>trivial
 | cons v vs =>
 cases vs with
 | cons _ _=>cases v<;>trivial
 | nil =>
 cases v with
 | ref i =>
  obtain ⟨cv,_,rfl,⟨a,hi,rfl⟩,e⟩:=hv;rw [show _=[] from e]
  unfold j4;dsimp only
  cases hx:q.H[i]? with
  | none=>trivial
  | some o =>
  cases o with
  | list xs =>
   obtain ⟨a1,n1,ws,g1,g2,g3⟩:=R.st.list hx
   obtain rfl:a=a1:=Option.some.inj (hi.symm.trans g1)
   haveI hL:s.heap.IsList a ws.toArray:=⟨_,g2,rfl,n1,rfl⟩
   dsimp only
   cases hn:dt oG xs with
   | none=>trivial
   | some ns =>
    dsimp only
    split
    ·rename_i hl
     obtain rfl:=nK hn
     have hI:=lC g3
     intro Q E hQ
     refine sorted_ints_rev hL hI (by rw [IntsAre.length hI];exact hl) λout ns' a1 a2 a3=> ?_
     obtain ⟨e,he⟩:=sortedAll_at s.heap ws out
     haveI hk:s.heap.StaysIn (sortedAll s.heap ws out):=λ_ _=>sortedAll_old
     haveI e1:ns'.reverse=cD ns:=iT ((List.reverse_perm _).trans a2) (List.pairwise_reverse.mpr a3)
     rw [<- e1,List.reverse_reverse] at hQ
     exact hQ _ _ _ (aY.alloc (tk:=s.toks) R hk (aaH (Nat.le_succ _)) ⟨out.toList,⟨e,by rw [Array.toArray_toList];exact he⟩,kL a1⟩) (gD R.st _)
    ·trivial
  | _=>trivial
 | _=>trivial
theorem CL (C:bL G) {e:Expr} {es:List Expr} {p pos kp vp:Pos} {kk:Nat} {m:Cm (List V)} (h1:Bv hq k env (e::es) m) (hx:env.kindOf (Str.ofString "sorted")=some .globalImplicit) (hv:nsIn G.K mainGlobals (Str.ofString "sorted")=some none)
  (he:∃x r,backTo pos (starEach (e::es) env)=(false,x)::r) (hp:(backTo pos (starEach (e::es) env)).any (·.1)=false) :
  Ev hq k env (.Call (.Name (Str.ofString "sorted") p) (e::es) [⟨some (Str.ofString "reverse"),.Constant (.bool true) kk vp,kp⟩] pos) (m.b λvs=>j4 vs):=by
 intro A ι q s ha R
 refine (aU.b (T':=λvs Q E s₁=>wpAny G.M A (call (.builtin "sorted") vs [(Str.ofString "reverse",.bool true)]) Q E s₁) (h1 pos A ι q s ha R) λa q' ι' b s' _ P hv=>CP P.rel hv).imp λQ E y=> ?_
 show wpAny G.M A (do callWith pos (<- eval (.Name (Str.ofString "sorted") p) env) [] (backTo pos (starEach (e::es) env)) (backToKw pos (keywordEach [⟨some (Str.ofString "reverse"),.Constant (.bool true) kk vp,kp⟩] env))) Q E s
 refine wpAny_bind (mw C R (v:= .builtin "sorted") hx hv ∅ ∅ ∅ ?_)
 refine callWith_builtin_kwB hp rfl ?_
 obtain ⟨x,r,he⟩:=he
 rw [he] at y ⊢
 exact evalArgs_kwB rfl (wpAny_mono y (λvs s₁ z=>kws_cons (wpAny_Constant_bool (kws_nil z))) λ_ _ z=>z)
theorem Bt (_:bL G):IR true k env (.builtin "sum") yq:=⟨gO _,λ_ _ _ _ _ _ ha R hv=>IX (ha.hd rfl) R hv⟩
theorem fy (C:bL G):IR true k env (.builtin "sorted") cj:=⟨gO _,λ_ _ _ _ _ _ ha R hv=>DQ C (ha.hd rfl) R hv⟩
end
abbrev al:Cm (List V):=Cm.p []
abbrev ag (m:Cm V) (k:Cm (List V)):Cm (List V):=m.b λv=>k.b λw=>Cm.p (v::w)
abbrev am (i:Int):Cm V:=Cm.p (V.int i)
abbrev az (f:V->V->Cm V) (m k:Cm V):Cm V:=m.b λv=>k.b λw=>f v w
abbrev ax (m k:Cm V):Cm V:=m.b λv=>k.b λw=>aJ v w
abbrev bi (o:CmpOp) (m k:Cm V):Cm Bool:=m.b λv=>k.b λw=>(dA o v w).b λx=>Cm.p x
abbrev tK (o:CmpOp) (m k:Cm V):Cm V:=m.b λv=>k.b λw=>(dA o v w).b λx=>Cm.p (V.bool x)
abbrev aZ (c f:String) (F:Fc) (m:Cm V) (k:Cm (List V)):Cm V:=m.b λv=>(d5 c f v).b λ_=>k.b λw=>bD F (v::w)
abbrev tJ (d:Bool) (f:V->V->Cm V) (m k:Cm V):Cm V:=m.b λv=>(fV v).b λx=>if x=d then k.b λw=>f v w else Cm.stk
abbrev dQ (b:Bool):Cm Bool:=Cm.p (!b)
abbrev aG {α:Type} (k n:Cm α) (b:Bool):Cm α:=if b then k else n
abbrev aX (v:V):Cm Fl:=Cm.p (Fl.ret v)
abbrev cI:Cm Fl:=Cm.p Fl.next
abbrev aP (x:String) (v:V):Cm Fl:=(aL x v).b λ_=>Cm.p Fl.next
abbrev mn (k n:Cm V) (v:V):Cm Fl:=k.b λw=>n.b λu=>(cY w u v).b λ_=>Cm.p Fl.next
abbrev sH (_:V):Cm Fl:=Cm.p Fl.next
noncomputable abbrev dI (f:V->Cm Unit) (k:Cm Fl) (i:It):Cm Fl:=df i.g f k i.xs
abbrev nG (x:String) (v:Option Value):Prop:=nsIn G.K mainGlobals (Str.ofString x)=some v
noncomputable def Kj (K:Frag) (fd:FuncData) (ps:List String):Bool :=
 codeIn K fd.code fd.qualname&&(fd.closure.isEmpty&&(decide (fd.globals=mainGlobals)&&(decide (fd.builtins=builtinsNs)&&(decide (∀x∈ps,fd.scope.names.lookup (Str.ofString x)=some .local\/fd.scope.names.lookup (Str.ofString x)=some .cell)&&(decide ps.Nodup&&(decide ((cellsFrom 0 fd.scope.names []).map (·.1)).Nodup&&(!fd.scope.isCoroutine&&(!fd.scope.isGenerator&&decide (fd.scope.kind= .function)))))))))
theorem js {K:Frag} {f:Addr} {fd:FuncData} {ps:List String} {body:List Stmt} (a:∃oc od sl,K.lookup f=some ⟨oc,od,.func fd,sl⟩) (b:∀vals,vals.length=ps.length->bindArgs fd ⟨vals,[]⟩=pure (sI ps vals)) (h:Kj K fd ps=true) (e:fd.body= .stmts body):Bw K f fd ps body :=
 have h1:=aaN.mp h
 have h2:=aaN.mp h1.2
 have h3:=aaN.mp h2.2
 have h4:=aaN.mp h3.2
 have h5:=aaN.mp h4.2
 have h6:=aaN.mp h5.2
 have h7:=aaN.mp h6.2
 have h8:=aaN.mp h7.2
 have h9:=aaN.mp h8.2
 ⟨a,h1.1,e,List.isEmpty_iff.mp h2.1,of_decide_eq_true h3.1,of_decide_eq_true h4.1,b,of_decide_eq_true h5.1,of_decide_eq_true h6.1,of_decide_eq_true h7.1,(Bool.not_eq_true' _).mp h8.1,(Bool.not_eq_true' _).mp h9.1,of_decide_eq_true h9.2⟩
theorem BD {P:List Value->Prop} (h:∀a0,P [a0]):∀vs:List Value,vs.length=1->P vs:=λ_ e=>let ⟨a0,q⟩:=Jd e;q▸h a0
theorem BE {P:List Value->Prop} (h:∀a0 a1,P [a0,a1]):∀vs:List Value,vs.length=2->P vs:=λ_ e=>let ⟨a0,a1,q⟩:=Je e;q▸h a0 a1
theorem G1 {P:List Value->Prop} (h:∀a0 a1 a2,P [a0,a1,a2]):∀vs:List Value,vs.length=3->P vs:=λ_ e=>let ⟨a0,a1,a2,q⟩:=Jf e;q▸h a0 a1 a2
theorem IL {P:List Value->Prop} (h:∀a0 a1 a2 a3,P [a0,a1,a2,a3]):∀vs:List Value,vs.length=4->P vs:=λ_ e=>let ⟨a0,a1,a2,a3,q⟩:=Jg e;q▸h a0 a1 a2 a3
theorem J1 {P:List Value->Prop} (h:∀a0 a1 a2 a3 a4,P [a0,a1,a2,a3,a4]):∀vs:List Value,vs.length=5->P vs:=λ_ e=>let ⟨a0,a1,a2,a3,a4,q⟩:=JO e;q▸h a0 a1 a2 a3 a4
section
theorem pq:nG "BadPlan" (some (.ref 44)):=by kernel_rfl
theorem Ba:nG "BadWish" (some (.ref 56)):=by kernel_rfl
theorem uA:nG "MOST_LENGTH" (some (.int 60 577)):=by kernel_rfl
theorem vG:nG "MOST_PAGES" (some (.int 40 575)):=by kernel_rfl
theorem vH:nG "MOST_SIZES" (some (.int 8 579)):=by kernel_rfl
theorem qY:nG "NoRoom" (some (.ref 92)):=by kernel_rfl
theorem Dh:nG "NoSize" (some (.ref 80)):=by kernel_rfl
theorem qZ:nG "NotOut" (some (.ref 104)):=by kernel_rfl
theorem vI:nG "OutOfThing" (some (.ref 116)):=by kernel_rfl
theorem Gm:nG "Plan" (some (.ref 344)):=by kernel_rfl
theorem Gn:nG "Room" (some (.ref 295)):=by kernel_rfl
theorem EI:nG "Shelf" (some (.ref 171)):=by kernel_rfl
theorem mU:nG "TooLarge" (some (.ref 68)):=by kernel_rfl
theorem Ca:nG "bool" none:=by kernel_rfl
theorem qe:nG "enumerate" none:=by kernel_rfl
theorem EJ:nG "int" none:=by kernel_rfl
theorem c8:nG "isinstance" none:=by kernel_rfl
theorem Cb:nG "list" none:=by kernel_rfl
theorem jY:nG "range" none:=by kernel_rfl
theorem EK:nG "tuple" none:=by kernel_rfl
theorem BT:ph G.K "int" = true:=by kernel_rfl
theorem zw:ph G.K "bool" = true:=by kernel_rfl
theorem zx:ph G.K "list" = true:=by kernel_rfl
theorem C8:ph G.K "tuple" = true:=by kernel_rfl
theorem nA:oZ G.K 44=true:=by kernel_rfl
theorem Ay:oZ G.K 56=true:=by kernel_rfl
theorem yG:oZ G.K 68=true:=by kernel_rfl
theorem Bs:oZ G.K 80=true:=by kernel_rfl
theorem vy:oZ G.K 92=true:=by kernel_rfl
theorem pB:oZ G.K 104=true:=by kernel_rfl
theorem vz:oZ G.K 116=true:=by kernel_rfl
theorem AX:keepIn G.K (.ref 171)=true:=by kernel_rfl
theorem zE:makesIn G.K 171=true:=by kernel_rfl
theorem AT:findIn G.K (.ref 171) "__init__" = some (some (.ref 132)):=by kernel_rfl
theorem Db:keepIn G.K (.ref 295)=true:=by kernel_rfl
theorem A0:makesIn G.K 295=true:=by kernel_rfl
theorem C6:findIn G.K (.ref 295) "__init__" = some (some (.ref 189)):=by kernel_rfl
theorem Da:keepIn G.K (.ref 344)=true:=by kernel_rfl
theorem AZ:makesIn G.K 344=true:=by kernel_rfl
theorem C5:findIn G.K (.ref 344) "__init__" = some (some (.ref 327)):=by kernel_rfl
theorem oN:cq G.K 344 341 (Str.ofString "per")=true:=by kernel_rfl
theorem ff:cq G.K 295 211 (Str.ofString "begin")=true:=by kernel_rfl
theorem lK:cq G.K 171 142 (Str.ofString "free")=true:=by kernel_rfl
theorem lM:cq G.K 171 154 (Str.ofString "take")=true:=by kernel_rfl
theorem sL:cq G.K 295 282 (Str.ofString "moved")=true:=by kernel_rfl
theorem jo:cq G.K 295 204 (Str.ofString "of_size")=true:=by kernel_rfl
theorem lL:cq G.K 171 147 (Str.ofString "gone")=true:=by kernel_rfl
theorem cR:cq G.K 171 137 (Str.ofString "out")=true:=by kernel_rfl
theorem gc:cq G.K 295 277 (Str.ofString "gather")=true:=by kernel_rfl
theorem pY:cq G.K 295 292 (Str.ofString "shelves")=true:=by kernel_rfl
theorem qW:cq G.K 295 287 (Str.ofString "things")=true:=by kernel_rfl
theorem mT:cq G.K 171 161 (Str.ofString "has")=true:=by kernel_rfl
theorem lJ:cq G.K 295 218 (Str.ofString "found")=true:=by kernel_rfl
theorem mS:cq G.K 295 258 (Str.ofString "cell")=true:=by kernel_rfl
theorem sN:cq G.K 295 272 (Str.ofString "write")=true:=by kernel_rfl
theorem dD:cq G.K 295 199 (Str.ofString "empty_pages")=true:=by kernel_rfl
theorem sO:cq G.K 171 168 (Str.ofString "give")=true:=by kernel_rfl
theorem n7:cq G.K 295 237 (Str.ofString "give_back")=true:=by kernel_rfl
theorem uw:cq G.K 295 244 (Str.ofString "trim")=true:=by kernel_rfl
theorem pk:cq G.K 344 334 (Str.ofString "size_for")=true:=by kernel_rfl
theorem uu:cq G.K 295 194 (Str.ofString "pile")=true:=by kernel_rfl
theorem sK:cq G.K 295 225 (Str.ofString "fresh")=true:=by kernel_rfl
theorem ux:cq G.K 295 232 (Str.ofString "wish")=true:=by kernel_rfl
theorem uv:cq G.K 295 265 (Str.ofString "read")=true:=by kernel_rfl
end
section
theorem iH:sB "cells" := ie (L:=ko) (λ_=>rfl) ∅
theorem gx:sB "length" := ie (L:=ko) (λ_=>rfl) ∅
theorem wF:sB "page" := ie (L:=ko) (λ_=>rfl) ∅
theorem tW:sB "pages" := ie (L:=ko) (λ_=>rfl) ∅
theorem gb:sB "plan" := ie (L:=ko) (λ_=>rfl) ∅
theorem aQ:sB "racks" := ie (L:=ko) (λ_=>rfl) ∅
theorem dy:sB "size" := ie (L:=ko) (λ_=>rfl) ∅
theorem tX:sB "sizes" := ie (L:=ko) (λ_=>rfl) ∅
theorem dr:sB "taken" := ie (L:=ko) (λ_=>rfl) ∅
theorem AO:sC "cells" := ig (L:=ko) (λ_=>rfl) ∅
theorem zp:sC "length" := ig (L:=ko) (λ_=>rfl) ∅
theorem CY:sC "page" := ig (L:=ko) (λ_=>rfl) ∅
theorem AP:sC "pages" := ig (L:=ko) (λ_=>rfl) ∅
theorem CZ:sC "plan" := ig (L:=ko) (λ_=>rfl) ∅
theorem AQ:sC "racks" := ig (L:=ko) (λ_=>rfl) ∅
theorem C4:sC "size" := ig (L:=ko) (λ_=>rfl) ∅
theorem AR:sC "sizes" := ig (L:=ko) (λ_=>rfl) ∅
theorem AS:sC "taken" := ig (L:=ko) (λ_=>rfl) ∅
abbrev FX (k:Nat) (f:Addr) (F:Fc):Prop:=ck true k f F
variable (C:bL G)
include C
def Dt:Cm Fl:=((((af "number").b (pM "int")).b λv7=>(bE v7).b λb8=>if b8 then (((af "number").b (pM "bool")).b λv5=>(bE v5).b λb6=>Cm.p (V.bool (!b6))) else Cm.p v7).b aX)
def Gj:Cm Fl:=(Dt)
def pI:Fc:=gY ["number"] (Gj)
theorem ym:FX 1 306 (pI) :=
 ck.of C (k:=0) (js ⟨_,_,_,rfl⟩ (BD λ_=>∅) ∅ rfl) λL =>
 (aq (aW (jM (o4 (tH C BT ∅ c8 ∅ EJ ∅ ∅ ∅ aa ∅ ∅) (qI (GX (tH C zw ∅ c8 ∅ Ca ∅ ∅ ∅ aa ∅ ∅)))))))
def Ag:Cm Fl:=((((ag (af "number") al).b (bD (pI))).b λv9=>(bE v9).b λb10=>if b10 then ((af "least").b λv4=>(af "number").b λv5=>(dA .LtE v4 v5).b λx6=>if x6 then (af "most").b λv7=>(dA .LtE v5 v7).b λx8=>Cm.p (V.bool x8) else Cm.p (V.bool false)) else Cm.p v9).b aX)
def wK:Cm Fl:=(Ag)
def jT:Fc:=gY ["number", "least", "most"] (wK)
theorem rf:FX 2 313 (jT) :=
 ck.of C (k:=1) (js ⟨_,_,_,rfl⟩ (G1 λ_ _ _=>∅) ∅ rfl) λL =>
 (aq (aW (jM (o4 (bK C (ym C) (ae aa ai) ∅ ∅ ∅ ∅ ∅ ∅) (qI (DJ C aa aa aa ∅))))))
def vN:Cm Fl:=((((((ag (af "pages") (ag (am 1) (ag (am 40) al))).b (bD (jT))).b bE).b dQ).b (aG (Cm.p true) (((((ag (af "length") (ag (am 1) (ag (am 60) al))).b (bD (jT))).b bE).b dQ).b (aG (Cm.p true) (Cm.p false))))).b (aG ((ag (Cm.p (V.str "pages or their length")) al).b λ_=>gf "BadPlan") cI))
def vO:Cm Fl:=((((((af "sizes").b (pM "list")).b bE).b dQ).b (aG (Cm.p true) ((((am 1).b λv31=>((ag (af "sizes") al).b (dY)).b λv32=>(dA .LtE v31 v32).b λx33=>if x33 then (am 8).b λv34=>(dA .LtE v32 v34).b λx35=>Cm.p x35 else Cm.p false).b dQ).b (aG (Cm.p true) (Cm.p false))))).b (aG ((ag (Cm.p (V.str "a list of sizes")) al).b λ_=>gf "BadPlan") cI))
def vP:Cm Fl:=((am 0).b (aP "last"))
def oj:Cm Fl:=(aB (((((ag (af "size") (ag (az dq (af "last") (am 1)) (ag (af "length") al))).b (bD (jT))).b bE).b dQ).b (aG ((ag (Cm.p (V.str "sizes rise up to the length")) al).b λ_=>gf "BadPlan") cI)) ((af "size").b (aP "last")))
def vQ:Cm Fl:=(((af "sizes").b (cW)).b (dI (aL "size") (oj)))
def vR:Cm Fl:=((af "pages").b λv60=>(af "self").b λv61=>(b7 "pages" v60 v61).b λ_=>Cm.p Fl.next)
def vS:Cm Fl:=((af "length").b λv62=>(af "self").b λv63=>(b7 "length" v62 v63).b λ_=>Cm.p Fl.next)
def vT:Cm Fl:=(((ag (af "sizes") al).b (ii)).b λv67=>(af "self").b λv68=>(b7 "sizes" v67 v68).b λ_=>Cm.p Fl.next)
def rN:Cm Fl:=(aB (vN) (aB (vO) (aB (vP) (aB (vQ) (aB (vR) (aB (vS) (vT)))))))
def jh:Fc:=gY ["self", "pages", "length", "sizes"] (rN)
theorem zT:FX 3 327 (jh) :=
 ck.of C (k:=2) (js ⟨_,_,_,rfl⟩ (IL λ_ _ _ _=>∅) ∅ rfl) λL =>
 (aj (cH (dN (cN (dP (eG (bK C (rf C) (ae aa (ae ar (ae (AC C ∅ vG ∅) ai))) ∅ ∅ ∅ ∅ ∅ ∅))) (cN (dP (eG (bK C (rf C) (ae aa (ae ar (ae (AC C ∅ uA ∅) ai))) ∅ ∅ ∅ ∅ ∅ ∅))) fz))) (aq (eX C rfl ∅ pq ∅ nA ∅ (ae lE ai) ∅ ∅ (by intro q vs q' h;cases h;decide))) aT) (aj (cH (dN (cN (dP (eG (tH C zx ∅ c8 ∅ Cb ∅ ∅ ∅ aa ∅ ∅))) (cN (dP (AH C ar (cM C (ae aa ai) (iw C) ∅ ∅ ∅ ∅ ∅ ∅) (AC C ∅ vH ∅) ∅)) fz))) (aq (eX C rfl ∅ pq ∅ nA ∅ (ae lE ai) ∅ ∅ (by intro q vs q' h;cases h;decide))) aT) (aj (au ar ) (aj (dH (bG C (.name _ _) aa) bk (aj (cH (dP (eG (bK C (rf C) (ae aa (ae (aC C aa ar db) (ae aa ai))) ∅ ∅ ∅ ∅ ∅ ∅))) (aq (eX C rfl ∅ pq ∅ nA ∅ (ae lE ai) ∅ ∅ (by intro q vs q' h;cases h;decide))) aT) (aq (au aa ))) (λ_=>rfl)) (aj (eg C AP aa aa rfl) (aj (eg C zp aa aa rfl) (aq (eg C AR (cM C (ae aa ai) (AA C) ∅ ∅ ∅ ∅ ∅ ∅) aa rfl))))))))
def vX:Cm Fl:=((af "plan").b λv1=>(af "self").b λv2=>(b7 "plan" v1 v2).b λ_=>Cm.p Fl.next)
def vY:Cm Fl:=(Gl.b λv3=>(af "self").b λv4=>(b7 "racks" v3 v4).b λ_=>Cm.p Fl.next)
def vZ:Cm Fl:=((az ik ((ag (am 0) al).b eU) (az ik ((af "plan").b (aE "pages")) ((af "plan").b (aE "length")))).b λv14=>(af "self").b λv15=>(b7 "cells" v14 v15).b λ_=>Cm.p Fl.next)
def rP:Cm Fl:=(aB (vX) (aB (vY) (vZ)))
def jj:Fc:=gY ["self", "plan"] (rP)
theorem zU:FX 1 189 (jj) :=
 ck.of C (k:=0) (js ⟨_,_,_,rfl⟩ (BE λ_ _=>∅) ∅ rfl) λL =>
 (aj (eg C CZ aa aa rfl) (aj (eg C AQ FS aa rfl) (aq (eg C AO (aC C (dM (ae ar ai)) (aC C (aF C tW aa) (aF C gx aa) pF) pF) aa rfl))))
def yt:Cm Fl:=((((((ag (af "size") al).b (bD (pI))).b bE).b dQ).b (aG (Cm.p true) ((bi .NotIn (af "size") ((af "self").b (aE "sizes"))).b (aG (Cm.p true) (Cm.p false))))).b (aG ((ag (Cm.p (V.str "no such size")) al).b λ_=>gf "NoSize") cI))
def yu:Cm Fl:=((az cT ((af "self").b (aE "length")) (af "size")).b aX)
def pj:Cm Fl:=(aB (yt) (yu))
def iB:Fc:=gY ["self", "size"] (pj)
theorem uL:FX 2 341 (iB) :=
 ck.of C (k:=1) (js ⟨_,_,_,rfl⟩ (BE λ_ _=>∅) ∅ rfl) λL =>
 (aj (cH (dN (cN (dP (eG (bK C (ym C) (ae aa ai) ∅ ∅ ∅ ∅ ∅ ∅))) (cN (br C aa (aF C tX aa)) fz))) (aq (eX C rfl ∅ Dh ∅ Bs ∅ (ae lE ai) ∅ ∅ (by intro q vs q' h;cases h;decide))) aT) (aq (aW (aC C (aF C gx aa) aa dG))))
def uS:Cm Fl:=((az dq (az ik ((af "shelf").b (aE "page")) (((af "self").b (aE "plan")).b (aE "length"))) (az ik (af "slot") ((af "shelf").b (aE "size")))).b aX)
def pQ:Cm Fl:=(uS)
def eu:Fc:=gY ["self", "shelf", "slot"] (pQ)
theorem il:FX 1 211 (eu) :=
 ck.of C (k:=0) (js ⟨_,_,_,rfl⟩ (G1 λ_ _ _=>∅) ∅ rfl) λL =>
 (aq (aW (aC C (aC C (aF C wF aa) (aF C gx (aF C gb aa)) pF) (aC C aa (aF C dy aa) pF) db)))
def my:Cm V:=cC [] ((ag ((af "self").b (aE "taken")) al).b (oD)) (wS "slot" "one") (((af "one").b bE).b dQ) (af "slot")
def u5:Cm Fl:=((my).b aX)
def pU:Cm Fl:=(u5)
def fJ:Fc:=gY ["self"] (pU)
theorem qk:FX 1 142 (fJ) :=
 ck.of C (k:=0) (js ⟨_,_,_,rfl⟩ (BD λ_=>∅) ∅ rfl) λL =>
 (aq (aW (eJ [] ∅ ∅ (DM C rfl ∅ qe (ae (aF C dr aa) ai) ∅) (λ_=>(DG rfl (.inl ∅) (.inl ∅))) (BB ∅ ∅) (λ_=>(kf (dP (eG aa)))) (λ_=>aa) (λ_=>rfl))))
def cP:Cm Fl:=((((ax ((af "self").b (aE "taken")) (af "slot")).b bE).b dQ).b (aG (aB ((Cm.p (V.bool true)).b (mn ((af "self").b (aE "taken")) (af "slot"))) ((af "slot").b aX)) cI))
def nn:Cm Fl:=(((ag ((ag ((af "self").b (aE "taken")) al).b (dY)) al).b fi).b (dI (aL "slot") (cP)))
def ve:Cm Fl:=((ag (Cm.p (V.str "no slot is free")) al).b λ_=>gf "NoRoom")
def kW:Cm Fl:=(aB (nn) (ve))
def fK:Fc:=gY ["self"] (kW)
theorem qo:FX 1 154 (fK) :=
 ck.of C (k:=0) (js ⟨_,_,_,rfl⟩ (BD λ_=>∅) ∅ rfl) λL =>
 (aj (dH (nB C ∅ jY (ae (cM C (ae (aF C dr aa) ai) (iw C) ∅ ∅ ∅ ∅ ∅ ∅) ai) ∅) bk (aq (cH (dP (eG (aH C (aF C dr aa) aa))) (aj (fm C cG (aF C dr aa) aa rfl) (aq (aW aa))) aT)) (λ_=>rfl)) (aq (eX C rfl ∅ qY ∅ vy ∅ (ae lE ai) ∅ ∅ (by intro q vs q' h;cases h;decide))))
def iz:Cm V:=cC ["self"] ((af "stay").b (cW)) (aL "page") (bi .NotEq (aZ "Shelf" "free" (fJ) (ax ((af "self").b (aE "racks")) (af "page")) al) (al.b eU)) (ax ((af "self").b (aE "racks")) (af "page"))
def ni:Cm Fl:=((ax (iz) (am 0)).b (aP "shelf"))
def nj:Cm Fl:=((aZ "Room" "begin" (eu) (af "self") (ag (af "shelf") (ag (aZ "Shelf" "take" (fK) (af "shelf") al) al))).b (aP "there"))
def mq:Cm Fl:=((ax ((af "self").b (aE "cells")) (az dq (af "place") (af "step"))).b (mn ((af "self").b (aE "cells")) (az dq (af "there") (af "step"))))
def nk:Cm Fl:=(((ag (af "size") al).b fi).b (dI (aL "step") (mq)))
def uZ:Cm Fl:=(((ag (af "place") (ag (af "there") al)).b lg).b aX)
def pS:Cm Fl:=(aB (ni) (aB (nj) (aB (nk) (uZ))))
def ku:Fc:=gY ["self", "place", "stay", "size"] (pS)
theorem yh:FX 2 282 (ku) :=
 ck.of C (k:=1) (js ⟨_,_,_,rfl⟩ (IL λ_ _ _ _=>∅) ∅ rfl) λL =>
 (aj (au (aH C (eJ ["self"] ∅ ∅ (bG C (.name _ _) aa) (λ_=>bk) (dg ∅) (λ_=>(kf (br C (ba C lK (qk C) (aH C (aF C aQ aR) aa) ai ∅ ∅ rfl rfl ∅ ∅) (dM ai)))) (λ_=>(aH C (aF C aQ aR) aa)) (λ_=>rfl)) ar) ) (aj (au (ba C ff (il C) aR (ae aa (ae (ba C lM (qo C) aa ai ∅ ∅ rfl rfl ∅ ∅) ai)) ∅ ∅ rfl rfl ∅ ∅) ) (aj (dH (nB C ∅ jY (ae aa ai) ∅) bk (aq (fm C (aH C (aF C iH aR) (aC C aa aa db)) (aF C iH aR) (aC C aa aa db) rfl)) (λ_=>rfl)) (aq (aW (d9 (ae aa (ae aa ai))))))))
def jR:Cm V:=cC ["size", "self"] (((ag ((af "self").b (aE "racks")) al).b cj).b (cW)) (aL "page") (bi .Eq ((ax ((af "self").b (aE "racks")) (af "page")).b (aE "size")) (af "size")) (af "page")
def j5:Cm Fl:=((jR).b aX)
def iL:Cm Fl:=(j5)
def dU:Fc:=gY ["self", "size"] (iL)
theorem mZ:FX 1 204 (dU) :=
 ck.of C (k:=0) (js ⟨_,_,_,rfl⟩ (BE λ_ _=>∅) ∅ rfl) λL =>
 (aq (aW (eJ ["size", "self"] ∅ ∅ (bG C (.name _ _) (cM C (ae (aF C aQ aR) ai) (fy C) ∅ ∅ ∅ ∅ ∅ ∅)) (λ_=>bk) (dg ∅) (λ_=>(kf (br C (aF C dy (aH C (aF C aQ aR) aa)) aR))) (λ_=>aa) (λ_=>rfl))))
def mA:Cm V:=cC [] ((ag ((af "self").b (aE "taken")) al).b (oD)) (wS "slot" "one") ((af "one").b bE) (af "slot")
def u8:Cm Fl:=((mA).b aX)
def pV:Cm Fl:=(u8)
def hY:Fc:=gY ["self"] (pV)
theorem qm:FX 1 147 (hY) :=
 ck.of C (k:=0) (js ⟨_,_,_,rfl⟩ (BD λ_=>∅) ∅ rfl) λL =>
 (aq (aW (eJ [] ∅ ∅ (DM C rfl ∅ qe (ae (aF C dr aa) ai) ∅) (λ_=>(DG rfl (.inl ∅) (.inl ∅))) (BB ∅ ∅) (λ_=>(kf (eG aa))) (λ_=>aa) (λ_=>rfl))))
def oB:Cm V:=cC [] (((af "self").b (aE "taken")).b (cW)) (aL "one") ((af "one").b bE) (af "one")
def wf:Cm Fl:=(((ag (oB) al).b (dY)).b aX)
def rU:Cm Fl:=(wf)
def bO:Fc:=gY ["self"] (rU)
theorem d7:FX 1 137 (bO) :=
 ck.of C (k:=0) (js ⟨_,_,_,rfl⟩ (BD λ_=>∅) ∅ rfl) λL =>
 (aq (aW (cM C (ae (eJ [] ∅ ∅ (bG C (.name _ _) (aF C dr aa)) (λ_=>bk) (dg ∅) (λ_=>(kf (eG aa))) (λ_=>aa) (λ_=>rfl)) ai) (iw C) ∅ ∅ ∅ ∅ ∅ ∅)))
def gU:Cm Fl:=((aZ "Plan" "per" (iB) ((af "self").b (aE "plan")) (ag (af "size") al)).b (aP "per"))
def lO:Cm Fl:=((aZ "Room" "of_size" (dU) (af "self") (ag (af "size") al)).b (aP "pages"))
def gL:Cm V:=cC ["self"] ((af "pages").b (cW)) (aL "page") (Cm.p true) (aZ "Shelf" "out" (bO) (ax ((af "self").b (aE "racks")) (af "page")) al)
def lP:Cm Fl:=(((ag (gL) al).b yq).b (aP "many"))
def gM:Cm V:=cC ["self"] ((af "pages").b (cW)) (aL "page") (Cm.p true) ((ag ((aZ "Shelf" "out" (bO) (ax ((af "self").b (aE "racks")) (af "page")) al).b Ji) (ag (af "page") al)).b lg)
def lQ:Cm Fl:=(((ag (gM) al).b cj).b (aP "ranks"))
def gN:Cm V:=cC [] ((az (sr) (af "ranks") (az cT (az Bm (az dq (af "many") (af "per")) (am 1)) (af "per"))).b (cW)) (aL "rank") (Cm.p true) (ax (af "rank") (am 1))
def gV:Cm Fl:=(((ag (gN) al).b cj).b (aP "stay"))
def gW:Cm Fl:=((al.b eU).b (aP "moves"))
def gH:Cm Fl:=((tJ true gZ (af "moves") (aZ "Room" "moved" (ku) (af "self") (ag (aZ "Room" "begin" (eu) (af "self") (ag (ax ((af "self").b (aE "racks")) (af "page")) (ag (af "slot") al))) (ag (af "stay") (ag (af "size") al))))).b sH)
def eZ:Cm Fl:=((bi .NotIn (af "page") (af "stay")).b (aG (((aZ "Shelf" "gone" (hY) (ax ((af "self").b (aE "racks")) (af "page")) al).b (cW)).b (dI (aL "slot") (gH))) cI))
def lR:Cm Fl:=(((af "pages").b (cW)).b (dI (aL "page") (eZ)))
def gI:Cm Fl:=((bi .NotIn (af "page") (af "stay")).b (aG ((tJ false rI ((af "self").b (aE "racks")) (af "page")).b sH) cI))
def lS:Cm Fl:=(((af "pages").b (cW)).b (dI (aL "page") (gI)))
def sS:Cm Fl:=((af "moves").b aX)
def oH:Cm Fl:=(aB (gU) (aB (lO) (aB (lP) (aB (lQ) (aB (gV) (aB (gW) (aB (lR) (aB (lS) (sS)))))))))
def eS:Fc:=gY ["self", "size"] (oH)
theorem jG:FX 3 277 (eS) :=
 ck.of C (k:=2) (js ⟨_,_,_,rfl⟩ (BE λ_ _=>∅) ∅ rfl) λL =>
 (aj (au (ba C oN (uL C) (aF C gb aR) (ae aa ai) ∅ ∅ rfl rfl ∅ ∅) ) (aj (au (ba C jo (mZ C) aR (ae aa ai) ∅ ∅ rfl rfl ∅ ∅) ) (aj (au (cM C (ae (eJ ["self"] ∅ ∅ (bG C (.name _ _) aa) (λ_=>bk) (dg ∅) (λ_=>ka) (λ_=>(ba C cR (d7 C) (aH C (aF C aQ aR) aa) ai ∅ ∅ rfl rfl ∅ ∅)) (λ_=>rfl)) ai) (Bt C) ∅ ∅ ∅ ∅ ∅ ∅) ) (aj (au (cM C (ae (eJ ["self"] ∅ ∅ (bG C (.name _ _) aa) (λ_=>bk) (dg ∅) (λ_=>ka) (λ_=>(d9 (ae (IS (ba C cR (d7 C) (aH C (aF C aQ aR) aa) ai ∅ ∅ rfl rfl ∅ ∅)) (ae aa ai)))) (λ_=>rfl)) ai) (fy C) ∅ ∅ ∅ ∅ ∅ ∅) ) (aj (au (cM C (ae (eJ [] ∅ ∅ (bG C (.name _ _) (DK C aa (aC C (aC C (aC C aa aa db) ar yM) aa dG))) (λ_=>bk) (dg ∅) (λ_=>ka) (λ_=>(aH C aa ar)) (λ_=>rfl)) ai) (fy C) ∅ ∅ ∅ ∅ ∅ ∅) ) (aj (au (dM ai) ) (aj (dH (bG C (.name _ _) aa) bk (aq (cH (br C aa aa) (aq (dH (bG C (.name _ _) (ba C lL (qm C) (aH C (aF C aQ aR) aa) ai ∅ ∅ rfl rfl ∅ ∅)) bk (aq (gG (oh C true jQ (ml C) aa (ba C sL (yh C) aR (ae (ba C ff (il C) aR (ae (aH C (aF C aQ aR) aa) (ae aa ai)) ∅ ∅ rfl rfl ∅ ∅) (ae aa (ae aa ai))) ∅ ∅ rfl rfl ∅ ∅) rfl rfl ∅ ∅ ∅) rfl rfl)) (λ_=>rfl))) aT)) (λ_=>rfl)) (aj (dH (bG C (.name _ _) aa) bk (aq (cH (br C aa aa) (aq (gG (oh C false xx (AF C) (aF C aQ aR) aa rfl rfl ∅ ∅ ∅) rfl rfl)) aT)) (λ_=>rfl)) (aq (aW aa))))))))))
def ga:Cm V:=cC ["self"] (((ag ((af "self").b (aE "racks")) al).b cj).b (cW)) (aL "page") (Cm.p true) ((ag (af "page") (ag ((ax ((af "self").b (aE "racks")) (af "page")).b (aE "size")) (ag (aZ "Shelf" "out" (bO) (ax ((af "self").b (aE "racks")) (af "page")) al) al))).b lg)
def rk:Cm Fl:=((ga).b aX)
def mO:Cm Fl:=(rk)
def iC:Fc:=gY ["self"] (mO)
theorem uM:FX 2 292 (iC) :=
 ck.of C (k:=1) (js ⟨_,_,_,rfl⟩ (BD λ_=>∅) ∅ rfl) λL =>
 (aq (aW (eJ ["self"] ∅ ∅ (bG C (.name _ _) (cM C (ae (aF C aQ aR) ai) (fy C) ∅ ∅ ∅ ∅ ∅ ∅)) (λ_=>bk) (dg ∅) (λ_=>ka) (λ_=>(d9 (ae aa (ae (aF C dy (aH C (aF C aQ aR) aa)) (ae (ba C cR (d7 C) (aH C (aF C aQ aR) aa) ai ∅ ∅ rfl rfl ∅ ∅) ai))))) (λ_=>rfl))))
def lT:Cm Fl:=((al.b eU).b (aP "found"))
def fb:Cm V:=cC ["shelf", "self"] ((aZ "Shelf" "gone" (hY) (af "shelf") al).b (cW)) (aL "slot") (Cm.p true) ((ag (aZ "Room" "begin" (eu) (af "self") (ag (af "shelf") (ag (af "slot") al))) (ag ((af "shelf").b (aE "size")) al)).b lg)
def lF:Cm Fl:=(aB ((ax ((af "self").b (aE "racks")) (af "page")).b (aP "shelf")) ((az dq (af "found") (fb)).b (aP "found")))
def sT:Cm Fl:=((((ag ((af "self").b (aE "racks")) al).b cj).b (cW)).b (dI (aL "page") (lF)))
def sU:Cm Fl:=((af "found").b aX)
def oI:Cm Fl:=(aB (lT) (aB (sT) (sU)))
def jz:Fc:=gY ["self"] (oI)
theorem vJ:FX 2 287 (jz) :=
 ck.of C (k:=1) (js ⟨_,_,_,rfl⟩ (BD λ_=>∅) ∅ rfl) λL =>
 (aj (au (dM ai) ) (aj (dH (bG C (.name _ _) (cM C (ae (aF C aQ aR) ai) (fy C) ∅ ∅ ∅ ∅ ∅ ∅)) bk (aj (au (aH C (aF C aQ aR) aa) (.inr ⟨∅,∅⟩)) (aq (au (aC C aa (eJ ["shelf", "self"] ∅ ∅ (bG C (.name _ _) (ba C lL (qm C) aR ai ∅ ∅ rfl rfl ∅ ∅)) (λ_=>bk) (dg ∅) (λ_=>ka) (λ_=>(d9 (ae (ba C ff (il C) aR (ae aR (ae aa ai)) ∅ ∅ rfl rfl ∅ ∅) (ae (aF C dy aR) ai)))) (λ_=>rfl)) db) ))) (λ_=>rfl)) (aq (aW aa))))
def we:Cm Fl:=((((am 0).b λv1=>(af "slot").b λv2=>(dA .LtE v1 v2).b λx3=>if x3 then ((ag ((af "self").b (aE "taken")) al).b (dY)).b λv8=>(dA .Lt v2 v8).b λx9=>Cm.p (V.bool x9) else Cm.p (V.bool false)).b λv13=>(bE v13).b λb14=>if b14 then (ax ((af "self").b (aE "taken")) (af "slot")) else Cm.p v13).b aX)
def rT:Cm Fl:=(we)
def jk:Fc:=gY ["self", "slot"] (rT)
theorem sg:FX 1 161 (jk) :=
 ck.of C (k:=0) (js ⟨_,_,_,rfl⟩ (BE λ_ _=>∅) ∅ rfl) λL =>
 (aq (aW (jM (o4 (DJ C ar aa (cM C (ae (aF C dr aa) ai) (iw C) ∅ ∅ ∅ ∅ ∅ ∅) ∅) (qI (aH C (aF C dr aa) aa))))))
def uT:Cm Fl:=((az cT (af "place") (((af "self").b (aE "plan")).b (aE "length"))).b (aP "page"))
def uU:Cm Fl:=((bi .NotIn (af "page") ((af "self").b (aE "racks"))).b (aG ((ag (Cm.p (V.str "no shelf is there")) al).b λ_=>gf "NotOut") cI))
def uV:Cm Fl:=((ax ((af "self").b (aE "racks")) (af "page")).b (aP "shelf"))
def uW:Cm Fl:=((az bS (af "place") (((af "self").b (aE "plan")).b (aE "length"))).b (aP "step"))
def uX:Cm Fl:=(((bi .NotEq (az bS (af "step") ((af "shelf").b (aE "size"))) (am 0)).b (aG (Cm.p true) ((((aZ "Shelf" "has" (jk) (af "shelf") (ag (az cT (af "step") ((af "shelf").b (aE "size"))) al)).b bE).b dQ).b (aG (Cm.p true) (Cm.p false))))).b (aG ((ag (Cm.p (V.str "no thing begins there")) al).b λ_=>gf "NotOut") cI))
def uY:Cm Fl:=(((ag (af "shelf") (ag (az cT (af "step") ((af "shelf").b (aE "size"))) al)).b lg).b aX)
def pR:Cm Fl:=(aB (uT) (aB (uU) (aB (uV) (aB (uW) (aB (uX) (uY))))))
def hU:Fc:=gY ["self", "place"] (pR)
theorem qj:FX 2 218 (hU) :=
 ck.of C (k:=1) (js ⟨_,_,_,rfl⟩ (BE λ_ _=>∅) ∅ rfl) λL =>
 (aj (au (aC C aa (aF C gx (aF C gb aa)) dG) ) (aj (cH (br C aa (aF C aQ aa)) (aq (eX C rfl ∅ qZ ∅ pB ∅ (ae lE ai) ∅ ∅ (by intro q vs q' h;cases h;decide))) aT) (aj (au (aH C (aF C aQ aa) aa) ) (aj (au (aC C aa (aF C gx (aF C gb aa)) cJ) ) (aj (cH (dN (cN (br C (aC C aa (aF C dy aa) cJ) ar) (cN (dP (eG (ba C mT (sg C) aa (ae (aC C aa (aF C dy aa) dG) ai) ∅ ∅ rfl rfl ∅ ∅))) fz))) (aq (eX C rfl ∅ qZ ∅ pB ∅ (ae lE ai) ∅ ∅ (by intro q vs q' h;cases h;decide))) aT) (aq (aW (d9 (ae aa (ae (aC C aa (aF C dy aa) dG) ai))))))))))
def vU:Cm Fl:=((ax (aZ "Room" "found" (hU) (af "self") (ag (af "place") al)) (am 0)).b (aP "shelf"))
def vV:Cm Fl:=((((am 0).b λv8=>(af "step").b λv9=>(dA .LtE v8 v9).b λx10=>if x10 then ((af "shelf").b (aE "size")).b λv12=>(dA .Lt v9 v12).b λx13=>Cm.p x13 else Cm.p false).b dQ).b (aG ((ag (Cm.p (V.str "no such step")) al).b λ_=>gf "OutOfThing") cI))
def vW:Cm Fl:=((az dq (af "place") (af "step")).b aX)
def rO:Cm Fl:=(aB (vU) (aB (vV) (vW)))
def ji:Fc:=gY ["self", "place", "step"] (rO)
theorem sf:FX 3 258 (ji) :=
 ck.of C (k:=2) (js ⟨_,_,_,rfl⟩ (G1 λ_ _ _=>∅) ∅ rfl) λL =>
 (aj (au (aH C (ba C lJ (qj C) aa (ae aa ai) ∅ ∅ rfl rfl ∅ ∅) ar) ) (aj (cH (dP (AH C ar aa (aF C dy aa) ∅)) (aq (eX C rfl ∅ vI ∅ vz ∅ (ae lE ai) ∅ ∅ (by intro q vs q' h;cases h;decide))) aT) (aq (aW (aC C aa aa db)))))
def u0:Cm Fl:=((af "number").b (mn ((af "self").b (aE "cells")) (aZ "Room" "cell" (ji) (af "self") (ag (af "place") (ag (af "step") al)))))
def pT:Cm Fl:=(u0)
def hX:Fc:=gY ["self", "place", "step", "number"] (pT)
theorem yi:FX 4 272 (hX) :=
 ck.of C (k:=3) (js ⟨_,_,_,rfl⟩ (IL λ_ _ _ _=>∅) ∅ rfl) λL =>
 (aq (fm C aa (aF C iH aa) (ba C mS (sf C) aa (ae aa (ae aa ai)) ∅ ∅ rfl rfl ∅ ∅) rfl))
def dR:Cm Fl:=((bi .Eq (ax (af "_law_move") (am 0)) (af "_law_place")).b (aG ((ax (af "_law_move") (am 1)).b aX) cI))
def vj:Cm Fl:=(((af "_law_moves").b (cW)).b (dI (aL "_law_move") (dR)))
def vk:Cm Fl:=((af "_law_place").b aX)
def kZ:Cm Fl:=(aB (vj) (vk))
def ic:Fc:=gY ["_law_place", "_law_moves"] (kZ)
theorem qp:FX 1 437 (ic) :=
 ck.of C (k:=0) (js ⟨_,_,_,rfl⟩ (BE λ_ _=>∅) ∅ rfl) λL =>
 (aj (dH (bG C (.name _ _) aa) bk (aq (cH (br C (aH C aa ar) aa) (aq (aW (aH C aa ar))) aT)) (λ_=>rfl)) (aq (aW aa)))
def sV:Cm Fl:=((bi .Lt (af "_law_k") ((ag (af "_law_script") al).b (dY))).b (aG ((ax (af "_law_script") (af "_law_k")).b aX) cI))
def sW:Cm Fl:=((am 0).b aX)
def jD:Cm Fl:=(aB (sV) (sW))
def cg:Fc:=gY ["_law_script", "_law_k"] (jD)
theorem c9:FX 1 355 (cg) :=
 ck.of C (k:=0) (js ⟨_,_,_,rfl⟩ (BE λ_ _=>∅) ∅ rfl) λL =>
 (aj (cH (br C aa (cM C (ae aa ai) (iw C) ∅ ∅ ∅ ∅ ∅ ∅)) (aq (aW (aH C aa aa))) aT) (aq (aW ar)))
def mx:Cm V:=cC ["self"] (((ag ((af "self").b (aE "racks")) al).b cj).b (cW)) (aL "page") (bi .Eq (aZ "Shelf" "out" (bO) (ax ((af "self").b (aE "racks")) (af "page")) al) (am 0)) (af "page")
def m7:Cm Fl:=((mx).b aX)
def iK:Cm Fl:=(m7)
def cQ:Fc:=gY ["self"] (iK)
theorem fj:FX 2 199 (cQ) :=
 ck.of C (k:=1) (js ⟨_,_,_,rfl⟩ (BD λ_=>∅) ∅ rfl) λL =>
 (aq (aW (eJ ["self"] ∅ ∅ (bG C (.name _ _) (cM C (ae (aF C aQ aR) ai) (fy C) ∅ ∅ ∅ ∅ ∅ ∅)) (λ_=>bk) (dg ∅) (λ_=>(kf (br C (ba C cR (d7 C) (aH C (aF C aQ aR) aa) ai ∅ ∅ rfl rfl ∅ ∅) ar))) (λ_=>aa) (λ_=>rfl))))
def u6:Cm Fl:=((((aZ "Shelf" "has" (jk) (af "self") (ag (af "slot") al)).b bE).b dQ).b (aG ((ag (Cm.p (V.str "no such slot is out")) al).b λ_=>gf "NotOut") cI))
def u7:Cm Fl:=((Cm.p (V.bool false)).b (mn ((af "self").b (aE "taken")) (af "slot")))
def kT:Cm Fl:=(aB (u6) (u7))
def kx:Fc:=gY ["self", "slot"] (kT)
theorem yj:FX 2 168 (kx) :=
 ck.of C (k:=1) (js ⟨_,_,_,rfl⟩ (BE λ_ _=>∅) ∅ rfl) λL =>
 (aj (cH (dP (eG (ba C mT (sg C) aa (ae aa ai) ∅ ∅ rfl rfl ∅ ∅))) (aq (eX C rfl ∅ qZ ∅ pB ∅ (ae lE ai) ∅ ∅ (by intro q vs q' h;cases h;decide))) aT) (aq (fm C cG (aF C dr aa) aa rfl)))
def iX:Cm Fl:=((aZ "Room" "found" (hU) (af "self") (ag (af "place") al)).b (aP "both"))
def iY:Cm Fl:=((ax (af "both") (am 0)).b (aP "shelf"))
def iZ:Cm Fl:=((aZ "Shelf" "give" (kx) (af "shelf") (ag (ax (af "both") (am 1)) al)).b sH)
def fh:Cm V:=cC ["shelf", "self"] ((aZ "Room" "empty_pages" (cQ) (af "self") al).b (cW)) (aL "page") (bi .Eq ((ax ((af "self").b (aE "racks")) (af "page")).b (aE "size")) ((af "shelf").b (aE "size"))) (af "page")
def i9:Cm Fl:=((fh).b (aP "others"))
def ja:Cm Fl:=(((bi .Eq (aZ "Shelf" "out" (bO) (af "shelf") al) (am 0)).b (aG ((bi .Gt ((ag (af "others") al).b (dY)) (am 1)).b (aG (Cm.p true) (Cm.p false))) (Cm.p false))).b (aG ((tJ false rI ((af "self").b (aE "racks")) ((af "shelf").b (aE "page"))).b sH) cI))
def jW:Cm Fl:=(aB (iX) (aB (iY) (aB (iZ) (aB (i9) (ja)))))
def eA:Fc:=gY ["self", "place"] (jW)
theorem re:FX 3 237 (eA) :=
 ck.of C (k:=2) (js ⟨_,_,_,rfl⟩ (BE λ_ _=>∅) ∅ rfl) λL =>
 (aj (au (ba C lJ (qj C) aR (ae aa ai) ∅ ∅ rfl rfl ∅ ∅) ) (aj (au (aH C aa ar) (.inr ⟨∅,∅⟩)) (aj (gG (ba C sO (yj C) aR (ae (aH C aa ar) ai) ∅ ∅ rfl rfl ∅ ∅) rfl rfl) (aj (wr ["shelf", "self"] ∅ ∅ (bG C (.name _ _) (ba C dD (fj C) aR ai ∅ ∅ rfl rfl ∅ ∅)) (λ_=>bk) (dg ∅) (λ_=>(kf (br C (aF C dy (aH C (aF C aQ aR) aa)) (aF C dy aR)))) (λ_=>aa) (λ_=>rfl) rfl ∅) (aq (cH (dN (qK (br C (ba C cR (d7 C) aR ai ∅ ∅ rfl rfl ∅ ∅) ar) (qK (br C (cM C (ae aa ai) (iw C) ∅ ∅ ∅ ∅ ∅ ∅) ar) xp))) (aq (gG (oh C false xx (AF C) (aF C aQ aR) (aF C wF aR) rfl rfl ∅ ∅ ∅) rfl rfl)) aT))))))
def oP:Cm Fl:=((aZ "Room" "empty_pages" (cQ) (af "self") al).b (aP "pages"))
def om:Cm Fl:=((tJ false rI ((af "self").b (aE "racks")) (af "page")).b sH)
def wc:Cm Fl:=(((af "pages").b (cW)).b (dI (aL "page") (om)))
def wd:Cm Fl:=(((ag (af "pages") al).b (dY)).b aX)
def rS:Cm Fl:=(aB (oP) (aB (wc) (wd)))
def mF:Fc:=gY ["self"] (rS)
theorem zX:FX 3 244 (mF) :=
 ck.of C (k:=2) (js ⟨_,_,_,rfl⟩ (BD λ_=>∅) ∅ rfl) λL =>
 (aj (au (ba C dD (fj C) aa ai ∅ ∅ rfl rfl ∅ ∅) ) (aj (dH (bG C (.name _ _) aa) bk (aq (gG (oh C false xx (AF C) (aF C aQ aa) aa rfl rfl ∅ ∅ ∅) rfl rfl)) (λ_=>rfl)) (aq (aW (cM C (ae aa ai) (iw C) ∅ ∅ ∅ ∅ ∅ ∅)))))
def ju:Cm Fl:=((((((ag (af "wish") al).b (bD (pI))).b bE).b dQ).b (aG (Cm.p true) ((bi .Lt (af "wish") (am 1)).b (aG (Cm.p true) (Cm.p false))))).b (aG ((ag (Cm.p (V.str "a wish is from 1 on")) al).b λ_=>gf "BadWish") cI))
def fB:Cm Fl:=((bi .GtE (af "size") (af "wish")).b (aG ((af "size").b aX) cI))
def jv:Cm Fl:=((((af "self").b (aE "sizes")).b (cW)).b (dI (aL "size") (fB)))
def qs:Cm Fl:=((ag (Cm.p (V.str "beyond the greatest size")) al).b λ_=>gf "TooLarge")
def fe:Cm Fl:=(aB (ju) (aB (jv) (qs)))
def gP:Fc:=gY ["self", "wish"] (fe)
theorem sQ:FX 2 334 (gP) :=
 ck.of C (k:=1) (js ⟨_,_,_,rfl⟩ (BE λ_ _=>∅) ∅ rfl) λL =>
 (aj (cH (dN (cN (dP (eG (bK C (ym C) (ae aa ai) ∅ ∅ ∅ ∅ ∅ ∅))) (cN (br C aa ar) fz))) (aq (eX C rfl ∅ Ba ∅ Ay ∅ (ae lE ai) ∅ ∅ (by intro q vs q' h;cases h;decide))) aT) (aj (dH (bG C (.name _ _) (aF C tX aa)) bk (aq (cH (br C aa aa) (aq (aW aa)) aT)) (λ_=>rfl)) (aq (eX C rfl ∅ mU ∅ yG ∅ (ae lE ai) ∅ ∅ (by intro q vs q' h;cases h;decide)))))
def oA:Cm V:=cC ["self"] ((ag (((af "self").b (aE "plan")).b (aE "pages")) al).b fi) (aL "page") (bi .NotIn (af "page") ((af "self").b (aE "racks"))) (af "page")
def wa:Cm Fl:=((oA).b aX)
def rQ:Cm Fl:=(wa)
def mD:Fc:=gY ["self"] (rQ)
theorem zV:FX 1 194 (mD) :=
 ck.of C (k:=0) (js ⟨_,_,_,rfl⟩ (BD λ_=>∅) ∅ rfl) λL =>
 (aq (aW (eJ ["self"] ∅ ∅ (nB C ∅ jY (ae (aF C tW (aF C gb aR)) ai) ∅) (λ_=>bk) (dg ∅) (λ_=>(kf (br C aa (aF C aQ aR)))) (λ_=>aa) (λ_=>rfl))))
def u9:Cm Fl:=((af "page").b λv1=>(af "self").b λv2=>(b7 "page" v1 v2).b λ_=>Cm.p Fl.next)
def vc:Cm Fl:=((af "size").b λv3=>(af "self").b λv4=>(b7 "size" v3 v4).b λ_=>Cm.p Fl.next)
def vd:Cm Fl:=((az ik ((ag (Cm.p (V.bool false)) al).b eU) (af "slots")).b λv10=>(af "self").b λv11=>(b7 "taken" v10 v11).b λ_=>Cm.p Fl.next)
def pW:Cm Fl:=(aB (u9) (aB (vc) (vd)))
def hZ:Fc:=gY ["self", "page", "size", "slots"] (pW)
theorem yk:FX 1 132 (hZ) :=
 ck.of C (k:=0) (js ⟨_,_,_,rfl⟩ (IL λ_ _ _ _=>∅) ∅ rfl) λL =>
 (aj (eg C CY aa aa rfl) (aj (eg C C4 aa aa rfl) (aq (eg C AS (aC C (dM (ae cG ai)) aa pF) aa rfl))))
def m9:Cm Fl:=((aZ "Room" "pile" (mD) (af "self") al).b (aP "pages"))
def iW:Cm Fl:=((bi .Eq (af "pages") (al.b eU)).b (aG ((aZ "Room" "empty_pages" (cQ) (af "self") al).b (aP "pages")) cI))
def fT:Cm Fl:=((bi .Eq (af "pages") (al.b eU)).b (aG ((ag (Cm.p (V.str "no page is free")) al).b λ_=>gf "NoRoom") cI))
def ng:Cm Fl:=(((ag (ax (af "pages") (am 0)) (ag (af "size") (ag (aZ "Plan" "per" (iB) ((af "self").b (aE "plan")) (ag (af "size") al)) al))).b (oM "Shelf" (hZ))).b (mn ((af "self").b (aE "racks")) (ax (af "pages") (am 0))))
def nh:Cm Fl:=((ax ((af "self").b (aE "racks")) (ax (af "pages") (am 0))).b aX)
def ij:Cm Fl:=(aB (m9) (aB (iW) (aB (fT) (aB (ng) (nh)))))
def hV:Fc:=gY ["self", "size"] (ij)
theorem yg:FX 3 225 (hV) :=
 ck.of C (k:=2) (js ⟨_,_,_,rfl⟩ (BE λ_ _=>∅) ∅ rfl) λL =>
 (aj (au (ba C uu (zV C) aa ai ∅ ∅ rfl rfl ∅ ∅) ) (aj (cH (br C aa (dM ai)) (aq (au (ba C dD (fj C) aa ai ∅ ∅ rfl rfl ∅ ∅) )) aT) (aj (cH (br C aa (dM ai)) (aq (eX C rfl ∅ qY ∅ vy ∅ (ae lE ai) ∅ ∅ (by intro q vs q' h;cases h;decide))) aT) (aj (fm C (AD C ∅ EI AX ∅ ∅ zE AT ∅ (yk C) ∅ (ae (aH C aa ar) (ae aa (ae (ba C oN (uL C) (aF C gb aa) (ae aa ai) ∅ ∅ rfl rfl ∅ ∅) ai))) ∅) (aF C aQ aa) (aH C aa ar) rfl) (aq (aW (aH C (aF C aQ aa) (aH C aa ar))))))))
def oQ:Cm Fl:=((aZ "Plan" "size_for" (gP) ((af "self").b (aE "plan")) (ag (af "places") al)).b (aP "size"))
def oR:Cm Fl:=((Cm.p V.none).b (aP "best"))
def jy:Cm Fl:=(aB ((ax ((af "self").b (aE "racks")) (af "page")).b (aP "shelf")) (((bi .NotEq (aZ "Shelf" "free" (fJ) (af "shelf") al) (al.b eU)).b (aG (((bi .Is (af "best") (Cm.p V.none)).b (aG (Cm.p true) ((bi .Gt (aZ "Shelf" "out" (bO) (af "shelf") al) (aZ "Shelf" "out" (bO) (af "best") al)).b (aG (Cm.p true) (Cm.p false))))).b (aG (Cm.p true) (Cm.p false))) (Cm.p false))).b (aG ((af "shelf").b (aP "best")) cI)))
def oS:Cm Fl:=(((aZ "Room" "of_size" (dU) (af "self") (ag (af "size") al)).b (cW)).b (dI (aL "page") (jy)))
def jH:Cm Fl:=((bi .Is (af "best") (Cm.p V.none)).b (aG ((aZ "Room" "fresh" (hV) (af "self") (ag (af "size") al)).b (aP "best")) cI))
def jI:Cm Fl:=((aZ "Room" "begin" (eu) (af "self") (ag (af "best") (ag (aZ "Shelf" "take" (fK) (af "best") al) al))).b (aP "place"))
def oo:Cm Fl:=((am 0).b (mn ((af "self").b (aE "cells")) (az dq (af "place") (af "step"))))
def jJ:Cm Fl:=(((ag (af "size") al).b fi).b (dI (aL "step") (oo)))
def oU:Cm Fl:=((af "place").b aX)
def gy:Cm Fl:=(aB (oQ) (aB (oR) (aB (oS) (aB (jH) (aB (jI) (aB (jJ) (oU)))))))
def dp:Fc:=gY ["self", "places"] (gy)
theorem zY:FX 4 232 (dp) :=
 ck.of C (k:=3) (js ⟨_,_,_,rfl⟩ (BE λ_ _=>∅) ∅ rfl) λL =>
 (aj (au (ba C pk (sQ C) (aF C gb aa) (ae aa ai) ∅ ∅ rfl rfl ∅ ∅) ) (aj (au tI ) (aj (dH (bG C (.name _ _) (ba C jo (mZ C) aa (ae aa ai) ∅ ∅ rfl rfl ∅ ∅)) bk (aj (au (aH C (aF C aQ aa) aa) ) (aq (cH (dN (qK (br C (ba C lK (qk C) aa ai ∅ ∅ rfl rfl ∅ ∅) (dM ai)) (qK (dN (cN (br C aa tI) (cN (br C (ba C cR (d7 C) aa ai ∅ ∅ rfl rfl ∅ ∅) (ba C cR (d7 C) aa ai ∅ ∅ rfl rfl ∅ ∅)) fz))) xp))) (aq (au aa )) aT))) (λ_=>rfl)) (aj (cH (br C aa tI) (aq (au (ba C sK (yg C) aa (ae aa ai) ∅ ∅ rfl rfl ∅ ∅) )) aT) (aj (au (ba C ff (il C) aa (ae aa (ae (ba C lM (qo C) aa ai ∅ ∅ rfl rfl ∅ ∅) ai)) ∅ ∅ rfl rfl ∅ ∅) ) (aj (dH (nB C ∅ jY (ae aa ai) ∅) bk (aq (fm C ar (aF C iH aa) (aC C aa aa db) rfl)) (λ_=>rfl)) (aq (aW aa))))))))
def gK:Cm Fl:=((bi .GtE (af "_law_size") (af "_law_wish")).b (aG ((af "_law_size").b aX) cI))
def lY:Cm Fl:=(((af "_law_sizes").b (cW)).b (dI (aL "_law_size") (gK)))
def td:Cm Fl:=((am 0).b aX)
def jE:Cm Fl:=(aB (lY) (td))
def jC:Fc:=gY ["_law_sizes", "_law_wish"] (jE)
theorem vM:FX 1 383 (jC) :=
 ck.of C (k:=0) (js ⟨_,_,_,rfl⟩ (BE λ_ _=>∅) ∅ rfl) λL =>
 (aj (dH (bG C (.name _ _) aa) bk (aq (cH (br C aa aa) (aq (aW aa)) aT)) (λ_=>rfl)) (aq (aW ar)))
def wl:Cm Fl:=((((af "_law_found").b (pM "int")).b λv7=>(bE v7).b λb8=>if b8 then (((af "_law_found").b (pM "bool")).b λv5=>(bE v5).b λb6=>Cm.p (V.bool (!b6))) else Cm.p v7).b aX)
def zD:Cm Fl:=(wl)
def ft:Fc:=gY ["_law_found"] (zD)
theorem jr:FX 1 362 (ft) :=
 ck.of C (k:=0) (js ⟨_,_,_,rfl⟩ (BD λ_=>∅) ∅ rfl) λL =>
 (aq (aW (jM (o4 (tH C BT ∅ c8 ∅ EJ ∅ ∅ ∅ aa ∅ ∅) (qI (GX (tH C zw ∅ c8 ∅ Ca ∅ ∅ ∅ aa ∅ ∅)))))))
def oV:Cm Fl:=(((ag (af "_law_sizes") (ag (af "_law_wish") al)).b (bD (jC))).b (aP "_law_size"))
def oX:Cm Fl:=(Du ((aZ "Room" "wish" (dp) (af "_law_room") (ag (af "_law_wish") al)).b (aP "_law_place")) (λc=>if c = "TooLarge" then ((tK .Eq (af "_law_size") (am 0)).b aX) else if c = "NoRoom" then ((tK .Gt (af "_law_size") (am 0)).b aX) else Cm.stk))
def wg:Cm Fl:=((tJ true gZ (af "_law_out") ((ag (af "_law_place") (ag (af "_law_size") al)).b lg)).b sH)
def wh:Cm Fl:=((((ag (af "_law_place") al).b (bD (ft))).b λv35=>(bE v35).b λb36=>if b36 then (tK .Gt (af "_law_size") (am 0)) else Cm.p v35).b aX)
def jm:Cm Fl:=(aB (oV) (aB (oX) (aB (wg) (wh))))
def jl:Fc:=gY ["_law_room", "_law_sizes", "_law_out", "_law_wish"] (jm)
theorem sj:FX 5 404 (jl) :=
 ck.of C (k:=4) (js ⟨_,_,_,rfl⟩ (IL λ_ _ _ _=>∅) ∅ rfl) λL =>
 (aj (au (bK C (vM C) (ae aa (ae aa ai)) ∅ ∅ ∅ ∅ ∅ ∅) ) (aj (I1 (aq (au (ba C ux (zY C) aa (ae aa ai) ∅ ∅ rfl rfl ∅ ∅) )) (λc=>(Hb (GY (a:=68) C ∅ mU ∅ ∅ ∅ (aq (aW (Bu C aa ar ∅)))) (Hb (Hn (a:=92) C ∅ mU ∅ ∅ ∅ (GY (a:=92) C ∅ qY ∅ ∅ ∅ (aq (aW (Bu C aa ar ∅))))) HO)))) (aj (gG (oh C true jQ (ml C) aa (d9 (ae aa (ae aa ai))) rfl rfl ∅ ∅ ∅) rfl rfl) (aq (aW (jM (o4 (bK C (jr C) (ae aa ai) ∅ ∅ ∅ ∅ ∅ ∅) (qI (Bu C aa ar ∅)))))))))
def wi:Cm Fl:=(((((af "_law_found").b (pM "list")).b bE).b dQ).b (aG ((Cm.p (V.bool false)).b aX) cI))
def oz:Cm Fl:=(aB ((((((af "_law_pair").b (pM "tuple")).b bE).b dQ).b (aG (Cm.p true) ((bi .NotEq ((ag (af "_law_pair") al).b (dY)) (am 2)).b (aG (Cm.p true) (Cm.p false))))).b (aG ((Cm.p (V.bool false)).b aX) cI)) ((((((ag (ax (af "_law_pair") (am 0)) al).b (bD (ft))).b bE).b dQ).b (aG (Cm.p true) (((((ag (ax (af "_law_pair") (am 1)) al).b (bD (ft))).b bE).b dQ).b (aG (Cm.p true) (Cm.p false))))).b (aG ((Cm.p (V.bool false)).b aX) cI)))
def wj:Cm Fl:=(((af "_law_found").b (cW)).b (dI (aL "_law_pair") (oz)))
def wk:Cm Fl:=((Cm.p (V.bool true)).b aX)
def rV:Cm Fl:=(aB (wi) (aB (wj) (wk)))
def gu:Fc:=gY ["_law_found"] (rV)
theorem m5:FX 2 390 (gu) :=
 ck.of C (k:=1) (js ⟨_,_,_,rfl⟩ (BD λ_=>∅) ∅ rfl) λL =>
 (aj (cH (dP (eG (tH C zx ∅ c8 ∅ Cb ∅ ∅ ∅ aa ∅ ∅))) (aq (aW cG)) aT) (aj (dH (bG C (.name _ _) aa) bk (aj (cH (dN (cN (dP (eG (tH C C8 ∅ c8 ∅ EK ∅ ∅ ∅ aa ∅ ∅))) (cN (br C (cM C (ae aa ai) (iw C) ∅ ∅ ∅ ∅ ∅ ∅) ar) fz))) (aq (aW cG)) aT) (aq (cH (dN (cN (dP (eG (bK C (jr C) (ae (aH C aa ar) ai) ∅ ∅ ∅ ∅ ∅ ∅))) (cN (dP (eG (bK C (jr C) (ae (aH C aa ar) ai) ∅ ∅ ∅ ∅ ∅ ∅))) fz))) (aq (aW cG)) aT))) (λ_=>rfl)) (aq (aW cG))))
def rn:Cm Fl:=((aZ "Room" "gather" (eS) (af "_law_room") (ag (af "_law_size") al)).b (aP "_law_moves"))
def rq:Cm Fl:=(((((ag (af "_law_moves") al).b (bD (gu))).b bE).b dQ).b (aG ((Cm.p (V.bool false)).b aX) cI))
def fY:Cm Fl:=(aB ((bi .NotIn ((ag (ax (af "_law_move") (am 0)) (ag (af "_law_size") al)).b lg) (af "_law_out")).b (aG ((Cm.p (V.bool false)).b aX) cI)) (((ag (ax (af "_law_move") (am 1)) (ag (af "_law_size") al)).b lg).b (mn (af "_law_out") (tJ true xL (af "_law_out") ((ag (ax (af "_law_move") (am 0)) (ag (af "_law_size") al)).b lg)))))
def rt:Cm Fl:=(((af "_law_moves").b (cW)).b (dI (aL "_law_move") (fY)))
def ru:Cm Fl:=((Cm.p (V.bool true)).b aX)
def mP:Cm Fl:=(aB (rn) (aB (rq) (aB (rt) (ru))))
def iD:Fc:=gY ["_law_room", "_law_size", "_law_out"] (mP)
theorem uN:FX 4 397 (iD) :=
 ck.of C (k:=3) (js ⟨_,_,_,rfl⟩ (G1 λ_ _ _=>∅) ∅ rfl) λL =>
 (aj (au (ba C gc (jG C) aa (ae aa ai) ∅ ∅ rfl rfl ∅ ∅) ) (aj (cH (dP (eG (bK C (m5 C) (ae aa ai) ∅ ∅ ∅ ∅ ∅ ∅))) (aq (aW cG)) aT) (aj (dH (bG C (.name _ _) aa) bk (aj (cH (br C (d9 (ae (aH C aa ar) (ae aa ai))) aa) (aq (aW cG)) aT) (aq (fm C (d9 (ae (aH C aa ar) (ae aa ai))) aa (oh C true DX (FU C) aa (d9 (ae (aH C aa ar) (ae aa ai))) rfl rfl ∅ ∅ ∅) rfl))) (λ_=>rfl)) (aq (aW cG)))))
def qB:Cm Fl:=((az cT (af "_law_cell") (am 8)).b (aP "_law_more"))
def lu:Cm Fl:=((bi .Lt (az bS (af "_law_cell") (am 8)) (am 3)).b (aG (((ag (af "_law_room") (ag (af "_law_sizes") (ag (af "_law_out") (ag (az dq (am 1) (az bS (af "_law_more") (af "_law_length"))) al)))).b (bD (jl))).b aX) cI))
def kj:Cm Fl:=(((((ag (af "_law_room") (ag (af "_law_sizes") (ag (af "_law_out") (ag (az dq (am 1) (az bS (af "_law_more") (af "_law_length"))) al)))).b (bD (jl))).b bE).b dQ).b (aG ((Cm.p (V.bool false)).b aX) cI))
def lv:Cm Fl:=((bi .Lt (az bS (af "_law_cell") (am 8)) (am 5)).b (aG (aB (((ag (az dq (am 1) (az bS (az cT (af "_law_more") (am 2)) (am 6))) al).b fi).b (dI (aL "_law_turn") (kj))) ((Cm.p (V.bool true)).b aX)) cI))
def iu:Cm Fl:=((bi .Lt (az bS (af "_law_cell") (am 8)) (am 7)).b (aG (aB ((bi .NotEq (af "_law_out") (al.b eU)).b (aG ((aZ "Room" "give_back" (eA) (af "_law_room") (ag (ax (tJ true E4 (af "_law_out") (az bS (af "_law_more") ((ag (af "_law_out") al).b (dY)))) (am 0)) al)).b sH) cI)) ((Cm.p (V.bool true)).b aX)) cI))
def lx:Cm Fl:=((bi .Eq (az bS (af "_law_more") (am 3)) (am 0)).b (aG (aB ((aZ "Room" "trim" (mF) (af "_law_room") al).b sH) ((Cm.p (V.bool true)).b aX)) cI))
def qC:Cm Fl:=(((ag (af "_law_room") (ag (ax (af "_law_sizes") (az bS (az cT (af "_law_more") (am 3)) ((ag (af "_law_sizes") al).b (dY)))) (ag (af "_law_out") al))).b (bD (iD))).b aX)
def uo:Cm Fl:=(aB (qB) (aB (lu) (aB (lv) (aB (iu) (aB (lx) (qC))))))
def pd:Fc:=gY ["_law_room", "_law_length", "_law_sizes", "_law_out", "_law_cell"] (uo)
theorem Bh:FX 6 411 (pd) :=
 ck.of C (k:=5) (js ⟨_,_,_,rfl⟩ (J1 λ_ _ _ _ _=>∅) ∅ rfl) λL =>
 (aj (au (aC C aa ar dG) ) (aj (cH (br C (aC C aa ar cJ) ar) (aq (aW (bK C (sj C) (ae aa (ae aa (ae aa (ae (aC C ar (aC C aa aa cJ) db) ai)))) ∅ ∅ ∅ ∅ ∅ ∅))) aT) (aj (cH (br C (aC C aa ar cJ) ar) (aj (dH (nB C ∅ jY (ae (aC C ar (aC C (aC C aa ar dG) ar cJ) db) ai) ∅) bk (aq (cH (dP (eG (bK C (sj C) (ae aa (ae aa (ae aa (ae (aC C ar (aC C aa aa cJ) db) ai)))) ∅ ∅ ∅ ∅ ∅ ∅))) (aq (aW cG)) aT)) (λ_=>rfl)) (aq (aW cG))) aT) (aj (cH (br C (aC C aa ar cJ) ar) (aj (cH (br C aa (dM ai)) (aq (gG (ba C n7 (re C) aa (ae (aH C (oh C true HB (IW C) aa (aC C aa (cM C (ae aa ai) (iw C) ∅ ∅ ∅ ∅ ∅ ∅) cJ) rfl rfl ∅ ∅ ∅) ar) ai) ∅ ∅ rfl rfl ∅ ∅) rfl rfl)) aT) (aq (aW cG))) aT) (aj (cH (br C (aC C aa ar cJ) ar) (aj (gG (ba C uw (zX C) aa ai ∅ ∅ rfl rfl ∅ ∅) rfl rfl) (aq (aW cG))) aT) (aq (aW (bK C (uN C) (ae aa (ae (aH C aa (aC C (aC C aa ar dG) (cM C (ae aa ai) (iw C) ∅ ∅ ∅ ∅ ∅ ∅) cJ)) (ae aa ai))) ∅ ∅ ∅ ∅ ∅ ∅))))))))
def sX:Cm Fl:=((al.b eU).b (aP "_law_out"))
def gJ:Cm Fl:=(((((ag (af "_law_room") (ag (af "_law_length") (ag (af "_law_sizes") (ag (af "_law_out") (ag (af "_law_cell") al))))).b (bD (pd))).b bE).b dQ).b (aG ((Cm.p V.none).b aX) cI))
def sY:Cm Fl:=(((af "_law_cells").b (cW)).b (dI (aL "_law_cell") (gJ)))
def sZ:Cm Fl:=((af "_law_out").b aX)
def oJ:Cm Fl:=(aB (sX) (aB (sY) (sZ)))
def jA:Fc:=gY ["_law_cells", "_law_room", "_law_length", "_law_sizes"] (oJ)
theorem vK:FX 7 418 (jA) :=
 ck.of C (k:=6) (js ⟨_,_,_,rfl⟩ (IL λ_ _ _ _=>∅) ∅ rfl) λL =>
 (aj (au (dM ai) ) (aj (dH (bG C (.name _ _) aa) bk (aq (cH (dP (eG (bK C (Bh C) (ae aa (ae aa (ae aa (ae aa (ae aa ai))))) ∅ ∅ ∅ ∅ ∅ ∅))) (aq (aW tI)) aT)) (λ_=>rfl)) (aq (aW aa))))
def wb:Cm Fl:=((ax ((af "self").b (aE "cells")) (aZ "Room" "cell" (ji) (af "self") (ag (af "place") (ag (af "step") al)))).b aX)
def rR:Cm Fl:=(wb)
def mE:Fc:=gY ["self", "place", "step"] (rR)
theorem zW:FX 4 265 (mE) :=
 ck.of C (k:=3) (js ⟨_,_,_,rfl⟩ (G1 λ_ _ _=>∅) ∅ rfl) λL =>
 (aq (aW (aH C (aF C iH aa) (ba C mS (sf C) aa (ae aa (ae aa ai)) ∅ ∅ rfl rfl ∅ ∅))))
def kh:Cm Fl:=(aB ((aZ "Room" "read" (mE) (af "_law_room") (ag (af "_law_place") (ag (af "_law_step_here") al))).b (aP "_law_found")) ((((((ag (af "_law_found") al).b (bD (ft))).b bE).b dQ).b (aG (Cm.p true) ((bi .NotEq (af "_law_found") (az dq (az dq (az ik (ax (af "_law_pair") (am 0)) (am 61)) (af "_law_step_here")) (am 1))).b (aG (Cm.p true) (Cm.p false))))).b (aG ((Cm.p (V.bool false)).b aX) cI)))
def ki:Cm Fl:=(aB (((ag (ax (af "_law_pair") (am 0)) (ag (af "_law_moves") al)).b (bD (ic))).b (aP "_law_place")) ((((ag (am 0) (ag (az bS (ax (af "_law_pair") (am 0)) (ax (af "_law_pair") (am 1))) (ag (az Bm (ax (af "_law_pair") (am 1)) (am 1)) al))).b eU).b (cW)).b (dI (aL "_law_step_here") (kh))))
def yx:Cm Fl:=(((af "_law_out").b (cW)).b (dI (aL "_law_pair") (ki)))
def yy:Cm Fl:=((Cm.p (V.bool true)).b aX)
def un:Cm Fl:=(aB (yx) (yy))
def pc:Fc:=gY ["_law_room", "_law_moves", "_law_out"] (un)
theorem Bg:FX 5 444 (pc) :=
 ck.of C (k:=4) (js ⟨_,_,_,rfl⟩ (G1 λ_ _ _=>∅) ∅ rfl) λL =>
 (aj (dH (bG C (.name _ _) aa) bk (aj (au (bK C (qp C) (ae (aH C aa ar) (ae aa ai)) ∅ ∅ ∅ ∅ ∅ ∅) ) (aq (dH (bG C (.name _ _) (dM (ae ar (ae (aC C (aH C aa ar) (aH C aa ar) cJ) (ae (aC C (aH C aa ar) ar yM) ai))))) bk (aj (au (ba C uv (zW C) aa (ae aa (ae aa ai)) ∅ ∅ rfl rfl ∅ ∅) ) (aq (cH (dN (cN (dP (eG (bK C (jr C) (ae aa ai) ∅ ∅ ∅ ∅ ∅ ∅))) (cN (br C aa (aC C (aC C (aC C (aH C aa ar) ar pF) aa db) ar db)) fz))) (aq (aW cG)) aT))) (λ_=>rfl)))) (λ_=>rfl)) (aq (aW cG)))
def fE:Cm V:=cC [] ((af "_law_moves").b (cW)) (aL "_law_move") (Cm.p true) (ax (af "_law_move") (am 1))
def fF:Cm V:=cC [] ((af "_law_moves").b (cW)) (aL "_law_move") (Cm.p true) (ax (af "_law_move") (am 1))
def jw:Cm Fl:=(((bi .NotEq (af "_law_moves") ((ag (af "_law_moves") al).b cj)).b (aG (Cm.p true) ((bi .NotEq (fE) ((ag (fF) al).b cj)).b (aG (Cm.p true) (Cm.p false))))).b (aG ((Cm.p (V.bool false)).b aX) cI))
def fG:Cm V:=cC [] ((af "_law_out").b (cW)) (aL "_law_pair") (Cm.p true) (ax (af "_law_pair") (am 0))
def jx:Cm Fl:=((fG).b (aP "_law_places"))
def fC:Cm Fl:=(aB (((bi .NotIn ((ag (ax (af "_law_move") (am 0)) (ag (af "_law_size") al)).b lg) (af "_law_out")).b (aG (Cm.p true) ((bi .In (ax (af "_law_move") (am 1)) (af "_law_places")).b (aG (Cm.p true) ((((am 0).b λv45=>(ax (af "_law_move") (am 1)).b λv46=>(dA .LtE v45 v46).b λx47=>if x47 then (az ik (af "_law_length") ((ag (af "_law_counts") al).b (dY))).b λv53=>(dA .Lt v46 v53).b λx54=>Cm.p x54 else Cm.p false).b dQ).b (aG (Cm.p true) (Cm.p false))))))).b (aG ((Cm.p (V.bool false)).b aX) cI)) (aB ((az bS (ax (af "_law_move") (am 1)) (af "_law_length")).b (aP "_law_far")) (aB (((bi .NotEq (az bS (af "_law_far") (af "_law_size")) (am 0)).b (aG (Cm.p true) ((bi .GtE (az cT (af "_law_far") (af "_law_size")) (az cT (af "_law_length") (af "_law_size"))).b (aG (Cm.p true) ((bi .Eq (ax (af "_law_counts") (az cT (ax (af "_law_move") (am 1)) (af "_law_length"))) (am 0)).b (aG (Cm.p true) (Cm.p false))))))).b (aG ((Cm.p (V.bool false)).b aX) cI)) ((tJ true gZ (af "_law_places") (ax (af "_law_move") (am 1))).b sH))))
def qy:Cm Fl:=(((af "_law_moves").b (cW)).b (dI (aL "_law_move") (fC)))
def qA:Cm Fl:=((Cm.p (V.bool true)).b aX)
def lI:Cm Fl:=(aB (jw) (aB (jx) (aB (qy) (qA))))
def gQ:Fc:=gY ["_law_moves", "_law_size", "_law_length", "_law_counts", "_law_out"] (lI)
theorem sR:FX 1 430 (gQ) :=
 ck.of C (k:=0) (js ⟨_,_,_,rfl⟩ (J1 λ_ _ _ _ _=>∅) ∅ rfl) λL =>
 (aj (cH (dN (cN (br C aa (cM C (ae aa ai) (fy C) ∅ ∅ ∅ ∅ ∅ ∅)) (cN (br C (eJ [] ∅ ∅ (bG C (.name _ _) aa) (λ_=>bk) (dg ∅) (λ_=>ka) (λ_=>(aH C aa ar)) (λ_=>rfl)) (cM C (ae (eJ [] ∅ ∅ (bG C (.name _ _) aa) (λ_=>bk) (dg ∅) (λ_=>ka) (λ_=>(aH C aa ar)) (λ_=>rfl)) ai) (fy C) ∅ ∅ ∅ ∅ ∅ ∅)) fz))) (aq (aW cG)) aT) (aj (wr [] ∅ ∅ (bG C (.name _ _) aa) (λ_=>bk) (dg ∅) (λ_=>ka) (λ_=>(aH C aa ar)) (λ_=>rfl) rfl ∅) (aj (dH (bG C (.name _ _) aa) bk (aj (cH (dN (cN (br C (d9 (ae (aH C aa ar) (ae aa ai))) aa) (cN (br C (aH C aa ar) aa) (cN (dP (AH C ar (aH C aa ar) (aC C aa (cM C (ae aa ai) (iw C) ∅ ∅ ∅ ∅ ∅ ∅) pF) ∅)) fz)))) (aq (aW cG)) aT) (aj (au (aC C (aH C aa ar) aa cJ) ) (aj (cH (dN (cN (br C (aC C aa aa cJ) ar) (cN (br C (aC C aa aa dG) (aC C aa aa dG)) (cN (br C (aH C aa (aC C (aH C aa ar) aa dG)) ar) fz)))) (aq (aW cG)) aT) (aq (gG (oh C true jQ (ml C) aa (aH C aa ar) rfl rfl ∅ ∅ ∅) rfl rfl))))) (λ_=>rfl)) (aq (aW cG)))))
def nq:Cm Fl:=((az cT (ax (af "_law_drawn") (am 1)) (af "_law_size")).b (aP "_law_slots"))
def nt:Cm Fl:=((az ik ((ag (am 0) al).b eU) (ax (af "_law_drawn") (am 0))).b (aP "_law_counts"))
def iy:Cm Fl:=((bi .Eq (ax (af "_law_pair") (am 1)) (af "_law_size")).b (aG ((az dq (ax (af "_law_counts") (az cT (ax (af "_law_pair") (am 0)) (ax (af "_law_drawn") (am 1)))) (am 1)).b (mn (af "_law_counts") (az cT (ax (af "_law_pair") (am 0)) (ax (af "_law_drawn") (am 1))))) cI))
def vm:Cm Fl:=(((af "_law_out").b (cW)).b (dI (aL "_law_pair") (iy)))
def nu:Cm Fl:=((az cT (az Bm (az dq ((ag (af "_law_counts") al).b yq) (af "_law_slots")) (am 1)) (af "_law_slots")).b (aP "_law_needed_here"))
def vn:Cm Fl:=(((ag (af "_law_needed_here") (ag (az Bm ((ag (af "_law_counts") al).b yq) ((ag (az (sr) ((ag (af "_law_counts") al).b j4) (af "_law_needed_here")) al).b yq)) (ag (af "_law_counts") al))).b lg).b aX)
def pX:Cm Fl:=(aB (nq) (aB (nt) (aB (vm) (aB (nu) (vn)))))
def ky:Fc:=gY ["_law_size", "_law_drawn", "_law_out"] (pX)
theorem yl:FX 1 425 (ky) :=
 ck.of C (k:=0) (js ⟨_,_,_,rfl⟩ (G1 λ_ _ _=>∅) ∅ rfl) λL =>
 (aj (au (aC C (aH C aa ar) aa dG) ) (aj (au (aC C (dM (ae ar ai)) (aH C aa ar) pF) ) (aj (dH (bG C (.name _ _) aa) bk (aq (cH (br C (aH C aa ar) aa) (aq (fm C (aC C (aH C aa (aC C (aH C aa ar) (aH C aa ar) dG)) ar db) aa (aC C (aH C aa ar) (aH C aa ar) dG) rfl)) aT)) (λ_=>rfl)) (aj (au (aC C (aC C (aC C (cM C (ae aa ai) (Bt C) ∅ ∅ ∅ ∅ ∅ ∅) aa db) ar yM) aa dG) ) (aq (aW (d9 (ae aa (ae (aC C (cM C (ae aa ai) (Bt C) ∅ ∅ ∅ ∅ ∅ ∅) (cM C (ae (DK C (CL C (ae aa ai) ∅ ∅ ⟨_,_,rfl⟩ ∅) aa) ai) (Bt C) ∅ ∅ ∅ ∅ ∅ ∅) yM) (ae aa ai))))))))))
def ry:Cm Fl:=((al.b eU).b (aP "_law_found"))
def rz:Cm Fl:=((am 0).b (aP "_law_before"))
def rA:Cm Fl:=((az cT (af "_law_cell") (am 3)).b (aP "_law_rest"))
def rB:Cm Fl:=((am 4).b (aP "_law_span"))
def j6:Cm Fl:=((bi .Eq (az bS (af "_law_cell") (am 3)) (am 0)).b (aG ((af "_law_length").b (aP "_law_span")) cI))
def jP:Cm Fl:=(aB ((az dq (az dq (af "_law_before") (am 1)) (az bS (af "_law_rest") (af "_law_span"))).b (aP "_law_before")) (aB ((az cT (af "_law_rest") (af "_law_span")).b (aP "_law_rest")) ((bi .LtE (af "_law_before") (af "_law_length")).b (aG ((tJ true gZ (af "_law_found") (af "_law_before")).b sH) cI))))
def rC:Cm Fl:=(((ag (af "_law_many") al).b fi).b (dI (aL "_law_turn") (jP)))
def j7:Cm Fl:=((bi .Eq (af "_law_found") (al.b eU)).b (aG ((tJ true gZ (af "_law_found") (af "_law_length")).b sH) cI))
def rD:Cm Fl:=((af "_law_found").b aX)
def mQ:Cm Fl:=(aB (ry) (aB (rz) (aB (rA) (aB (rB) (aB (j6) (aB (rC) (aB (j7) (rD))))))))
def iE:Fc:=gY ["_law_cell", "_law_length", "_law_many"] (mQ)
theorem uO:FX 1 369 (iE) :=
 ck.of C (k:=0) (js ⟨_,_,_,rfl⟩ (G1 λ_ _ _=>∅) ∅ rfl) λL =>
 (aj (au (dM ai) ) (aj (au ar ) (aj (au (aC C aa ar dG) ) (aj (au ar ) (aj (cH (br C (aC C aa ar cJ) ar) (aq (au aa )) aT) (aj (dH (nB C ∅ jY (ae aa ai) ∅) bk (aj (au (aC C (aC C aa ar db) (aC C aa aa cJ) db) ) (aj (au (aC C aa aa dG) ) (aq (cH (br C aa aa) (aq (gG (oh C true jQ (ml C) aa aa rfl rfl ∅ ∅ ∅) rfl rfl)) aT)))) (λ_=>rfl)) (aj (cH (br C aa (dM ai)) (aq (gG (oh C true jQ (ml C) aa aa rfl rfl ∅ ∅ ∅) rfl rfl)) aT) (aq (aW aa)))))))))
def lU:Cm Fl:=(((ag (af "_law_script") (ag (am 0) al)).b (bD (cg))).b (aP "_law_first"))
def lV:Cm Fl:=(((ag (af "_law_script") (ag (am 1) al)).b (bD (cg))).b (aP "_law_second"))
def lW:Cm Fl:=((az dq (am 1) (az bS (af "_law_first") (am 6))).b (aP "_law_pages"))
def lX:Cm Fl:=((az dq (am 1) (az bS (af "_law_second") (am 12))).b (aP "_law_length"))
def s6:Cm Fl:=((bi .Eq (az bS (az cT (af "_law_first") (am 6)) (am 8)) (am 1)).b (aG (aB ((az dq (am 1) (az bS (az cT (af "_law_first") (am 48)) (am 40))).b (aP "_law_pages")) ((az dq (am 1) (az bS (af "_law_second") (am 4))).b (aP "_law_length"))) cI))
def s8:Cm Fl:=((bi .Eq (az bS (az cT (af "_law_first") (am 6)) (am 8)) (am 2)).b (aG (aB ((az dq (am 1) (az bS (az cT (af "_law_first") (am 48)) (am 2))).b (aP "_law_pages")) ((az dq (am 1) (az bS (af "_law_second") (am 60))).b (aP "_law_length"))) cI))
def s9:Cm Fl:=((bi .Eq (az bS (az cT (af "_law_first") (am 6)) (am 8)) (am 3)).b (aG (aB ((az dq (am 1) (az bS (az cT (af "_law_first") (am 48)) (am 40))).b (aP "_law_pages")) ((az dq (am 1) (az bS (af "_law_second") (am 60))).b (aP "_law_length"))) cI))
def tc:Cm Fl:=(((ag (af "_law_pages") (ag (af "_law_length") (ag ((ag ((ag (af "_law_script") (ag (am 2) al)).b (bD (cg))) (ag (af "_law_length") (ag (az dq (am 1) (az bS ((ag (af "_law_script") (ag (am 3) al)).b (bD (cg))) (am 8))) al))).b (bD (iE))) al))).b lg).b aX)
def oK:Cm Fl:=(aB (lU) (aB (lV) (aB (lW) (aB (lX) (aB (s6) (aB (s8) (aB (s9) (tc))))))))
def jB:Fc:=gY ["_law_script"] (oK)
theorem vL:FX 2 376 (jB) :=
 ck.of C (k:=1) (js ⟨_,_,_,rfl⟩ (BD λ_=>∅) ∅ rfl) λL =>
 (aj (au (bK C (c9 C) (ae aa (ae ar ai)) ∅ ∅ ∅ ∅ ∅ ∅) ) (aj (au (bK C (c9 C) (ae aa (ae ar ai)) ∅ ∅ ∅ ∅ ∅ ∅) ) (aj (au (aC C ar (aC C aa ar cJ) db) ) (aj (au (aC C ar (aC C aa ar cJ) db) ) (aj (cH (br C (aC C (aC C aa ar dG) ar cJ) ar) (aj (au (aC C ar (aC C (aC C aa ar dG) ar cJ) db) ) (aq (au (aC C ar (aC C aa ar cJ) db) ))) aT) (aj (cH (br C (aC C (aC C aa ar dG) ar cJ) ar) (aj (au (aC C ar (aC C (aC C aa ar dG) ar cJ) db) ) (aq (au (aC C ar (aC C aa ar cJ) db) ))) aT) (aj (cH (br C (aC C (aC C aa ar dG) ar cJ) ar) (aj (au (aC C ar (aC C (aC C aa ar dG) ar cJ) db) ) (aq (au (aC C ar (aC C aa ar cJ) db) ))) aT) (aq (aW (d9 (ae aa (ae aa (ae (bK C (uO C) (ae (bK C (c9 C) (ae aa (ae ar ai)) ∅ ∅ ∅ ∅ ∅ ∅) (ae aa (ae (aC C ar (aC C (bK C (c9 C) (ae aa (ae ar ai)) ∅ ∅ ∅ ∅ ∅ ∅) ar cJ) db) ai))) ∅ ∅ ∅ ∅ ∅ ∅) ai)))))))))))))
def Cv:Cm Fl:=(((ag (af "_law_script") al).b (bD (jB))).b (aP "_law_drawn"))
def Cw:Cm Fl:=(((ag ((ag (ax (af "_law_drawn") (am 0)) (ag (ax (af "_law_drawn") (am 1)) (ag ((ag (ax (af "_law_drawn") (am 2)) al).b (ii)) al))).b (oM "Plan" (jh))) al).b (oM "Room" (jj))).b (aP "_law_room"))
def Cy:Cm Fl:=(((ag (az (yZ) (af "_law_script") (am 5)) (ag (af "_law_room") (ag (ax (af "_law_drawn") (am 1)) (ag (ax (af "_law_drawn") (am 2)) al)))).b (bD (jA))).b (aP "_law_out"))
def Cz:Cm Fl:=((bi .Is (af "_law_out") (Cm.p V.none)).b (aG ((Cm.p (V.bool false)).b aX) cI))
def xr:Cm Fl:=((aZ "Room" "write" (hX) (af "_law_room") (ag (ax (af "_law_pair") (am 0)) (ag (af "_law_step_here") (ag (az dq (az dq (az ik (ax (af "_law_pair") (am 0)) (am 61)) (af "_law_step_here")) (am 1)) al)))).b sH)
def xt:Cm Fl:=((((ag (am 0) (ag (az bS (ax (af "_law_pair") (am 0)) (ax (af "_law_pair") (am 1))) (ag (az Bm (ax (af "_law_pair") (am 1)) (am 1)) al))).b eU).b (cW)).b (dI (aL "_law_step_here") (xr)))
def CA:Cm Fl:=(((af "_law_out").b (cW)).b (dI (aL "_law_pair") (xt)))
def tB:Cm Fl:=((ax (ax (af "_law_drawn") (am 2)) (az bS ((ag (af "_law_script") (ag (am 4) al)).b (bD (cg))) ((ag (ax (af "_law_drawn") (am 2)) al).b (dY)))).b (aP "_law_size"))
def qx:Cm Fl:=(((bi .NotEq (af "_law_out") (al.b eU)).b (aG ((bi .Gt (az bS ((ag (af "_law_script") (ag (am 4) al)).b (bD (cg))) (am 4)) (am 0)).b (aG (Cm.p true) (Cm.p false))) (Cm.p false))).b (aG ((ax (ax (af "_law_out") (az bS (az cT ((ag (af "_law_script") (ag (am 4) al)).b (bD (cg))) (am 4)) ((ag (af "_law_out") al).b (dY)))) (am 1)).b (aP "_law_size")) cI))
def yv:Cm Fl:=(((ag (af "_law_size") (ag (af "_law_drawn") (ag (af "_law_out") al))).b (bD (ky))).b (aP "_law_due"))
def yw:Cm Fl:=((aZ "Room" "gather" (eS) (af "_law_room") (ag (af "_law_size") al)).b (aP "_law_moves"))
def vf:Cm Fl:=(((ag (af "_law_moves") al).b (ii)).b (aP "_law_copy"))
def vg:Cm Fl:=(((bi .NotEq (aZ "Room" "gather" (eS) (af "_law_room") (ag (af "_law_size") al)) (al.b eU)).b (aG (Cm.p true) ((bi .NotEq (af "_law_moves") (af "_law_copy")).b (aG (Cm.p true) (Cm.p false))))).b (aG ((Cm.p (V.bool false)).b aX) cI))
def vh:Cm Fl:=((((((ag (af "_law_moves") al).b (bD (gu))).b bE).b dQ).b (aG (Cm.p true) ((bi .NotEq ((ag (af "_law_moves") al).b (dY)) (ax (af "_law_due") (am 1))).b (aG (Cm.p true) (((((ag (af "_law_moves") (ag (af "_law_size") (ag (ax (af "_law_drawn") (am 1)) (ag (ax (af "_law_due") (am 2)) (ag (af "_law_out") al))))).b (bD (gQ))).b bE).b dQ).b (aG (Cm.p true) (Cm.p false))))))).b (aG ((Cm.p (V.bool false)).b aX) cI))
def xy:Cm V:=cC ["_law_size"] ((aZ "Room" "shelves" (iC) (af "_law_room") al).b (cW)) (aL "_law_row") (bi .Eq (ax (af "_law_row") (am 1)) (af "_law_size")) (af "_law_row")
def qt:Cm Fl:=((bi .NotEq ((ag (xy) al).b (dY)) (ax (af "_law_due") (am 0))).b (aG ((Cm.p (V.bool false)).b aX) cI))
def qu:Cm Fl:=((aZ "Room" "things" (jz) (af "_law_room") al).b (aP "_law_things"))
def xz:Cm V:=cC ["_law_moves"] ((af "_law_out").b (cW)) (aL "_law_pair") (Cm.p true) ((ag ((ag (ax (af "_law_pair") (am 0)) (ag (af "_law_moves") al)).b (bD (ic))) (ag (ax (af "_law_pair") (am 1)) al)).b lg)
def qv:Cm Fl:=(((ag (xz) al).b cj).b (aP "_law_behind_here"))
def qw:Cm Fl:=((((ag (af "_law_things") al).b (bD (gu))).b λv258=>(bE v258).b λb259=>if b259 then ((tK .Eq (af "_law_things") (af "_law_behind_here")).b λv256=>(bE v256).b λb257=>if b257 then ((ag (af "_law_room") (ag (af "_law_moves") (ag (af "_law_out") al))).b (bD (pc))) else Cm.p v256) else Cm.p v258).b aX)
def Hd:Cm Fl:=(aB (Cv) (aB (Cw) (aB (Cy) (aB (Cz) (aB (CA) (aB (tB) (aB (qx) (aB (yv) (aB (yw) (aB (vf) (aB (vg) (aB (vh) (aB (qt) (aB (qu) (aB (qv) (qw))))))))))))))))
def G9:Fc:=gY ["_law_script"] (Hd)
theorem Jo:FX 8 449 (G9) :=
 ck.of C (k:=7) (js ⟨_,_,_,rfl⟩ (BD λ_=>∅) ∅ rfl) λL =>
 (aj (au (bK C (vL C) (ae aa ai) ∅ ∅ ∅ ∅ ∅ ∅) ) (aj (au (AD C ∅ Gn Db ∅ ∅ A0 C6 ∅ (zU C) ∅ (ae (AD C ∅ Gm Da ∅ ∅ AZ C5 ∅ (zT C) ∅ (ae (aH C aa ar) (ae (aH C aa ar) (ae (cM C (ae (aH C aa ar) ai) (AA C) ∅ ∅ ∅ ∅ ∅ ∅) ai))) ∅) ai) ∅) ) (aj (au (bK C (vK C) (ae (Hl C aa ar) (ae aa (ae (aH C aa ar) (ae (aH C aa ar) ai)))) ∅ ∅ ∅ ∅ ∅ ∅) ) (aj (cH (br C aa tI) (aq (aW cG)) aT) (aj (dH (bG C (.name _ _) aa) bk (aq (dH (bG C (.name _ _) (dM (ae ar (ae (aC C (aH C aa ar) (aH C aa ar) cJ) (ae (aC C (aH C aa ar) ar yM) ai))))) bk (aq (gG (ba C sN (yi C) aa (ae (aH C aa ar) (ae aa (ae (aC C (aC C (aC C (aH C aa ar) ar pF) aa db) ar db) ai))) ∅ ∅ rfl rfl ∅ ∅) rfl rfl)) (λ_=>rfl))) (λ_=>rfl)) (aj (au (aH C (aH C aa ar) (aC C (bK C (c9 C) (ae aa (ae ar ai)) ∅ ∅ ∅ ∅ ∅ ∅) (cM C (ae (aH C aa ar) ai) (iw C) ∅ ∅ ∅ ∅ ∅ ∅) cJ)) (.inr ⟨∅,∅⟩)) (aj (cH (dN (qK (br C aa (dM ai)) (qK (br C (aC C (bK C (c9 C) (ae aa (ae ar ai)) ∅ ∅ ∅ ∅ ∅ ∅) ar cJ) ar) xp))) (aq (au (aH C (aH C aa (aC C (aC C (bK C (c9 C) (ae aa (ae ar ai)) ∅ ∅ ∅ ∅ ∅ ∅) ar dG) (cM C (ae aa ai) (iw C) ∅ ∅ ∅ ∅ ∅ ∅) cJ)) ar) (.inr ⟨∅,∅⟩))) aT) (aj (au (bK C (yl C) (ae aR (ae aa (ae aa ai))) ∅ ∅ ∅ ∅ ∅ ∅) ) (aj (au (ba C gc (jG C) aa (ae aR ai) ∅ ∅ rfl rfl ∅ ∅) (.inr ⟨∅,∅⟩)) (aj (au (cM C (ae aR ai) (AA C) ∅ ∅ ∅ ∅ ∅ ∅) ) (aj (cH (dN (cN (br C (ba C gc (jG C) aa (ae aR ai) ∅ ∅ rfl rfl ∅ ∅) (dM ai)) (cN (br C aR aa) fz))) (aq (aW cG)) aT) (aj (cH (dN (cN (dP (eG (bK C (m5 C) (ae aR ai) ∅ ∅ ∅ ∅ ∅ ∅))) (cN (br C (cM C (ae aR ai) (iw C) ∅ ∅ ∅ ∅ ∅ ∅) (aH C aa ar)) (cN (dP (eG (bK C (sR C) (ae aR (ae aR (ae (aH C aa ar) (ae (aH C aa ar) (ae aa ai))))) ∅ ∅ ∅ ∅ ∅ ∅))) fz)))) (aq (aW cG)) aT) (aj (cH (br C (cM C (ae (eJ ["_law_size"] ∅ ∅ (bG C (.name _ _) (ba C pY (uM C) aa ai ∅ ∅ rfl rfl ∅ ∅)) (λ_=>bk) (dg ∅) (λ_=>(kf (br C (aH C aa ar) aR))) (λ_=>aa) (λ_=>rfl)) ai) (iw C) ∅ ∅ ∅ ∅ ∅ ∅) (aH C aa ar)) (aq (aW cG)) aT) (aj (au (ba C qW (vJ C) aa ai ∅ ∅ rfl rfl ∅ ∅) ) (aj (au (cM C (ae (eJ ["_law_moves"] ∅ ∅ (bG C (.name _ _) aa) (λ_=>bk) (dg ∅) (λ_=>ka) (λ_=>(d9 (ae (bK C (qp C) (ae (aH C aa ar) (ae aR ai)) ∅ ∅ ∅ ∅ ∅ ∅) (ae (aH C aa ar) ai)))) (λ_=>rfl)) ai) (fy C) ∅ ∅ ∅ ∅ ∅ ∅) ) (aq (aW (jM (o4 (bK C (m5 C) (ae aa ai) ∅ ∅ ∅ ∅ ∅ ∅) (o4 (Bu C aa aa ∅) (qI (bK C (Bg C) (ae aa (ae aR (ae aa ai))) ∅ ∅ ∅ ∅ ∅ ∅))))))))))))))))))))))
end
theorem nH {P:Prop} (h:∀G:Prop,(P->G)->G):P:=h P id
section
variable {α β:Type} {q q':S} {l l':bp} {H H':Hp} {x y z:String} {v w u:V}
theorem bq {m:Cm α} {f:α->Cm β} {a:α} {r:sG S β} (h:m q= .ok a q') (k:f a q'=r):(m.b f) q=r:=by rw [rZ,h];exact k
theorem g_a1 {m:Cm V} (h:m q= .ok v q'):ag m al q= .ok [v] q':=bq h rfl
theorem g_cons {m:Cm V} {k:Cm (List V)} {vs:List V} {q₂:S} (h:m q= .ok v q') (h':k q'= .ok vs q₂):ag m k q= .ok (v::vs) q₂:=bq h (bq h' rfl)
theorem g_item {m k:Cm V} {q₂:S} {r:sG S V} (h:m q= .ok v q') (h':k q'= .ok w q₂) (e:aJ v w q₂=r):ax m k q=r:=bq h (bq h' e)
theorem g_cmp {o:CmpOp} {m k:Cm V} {b:Bool} {q₂ q₃:S} (h:m q= .ok v q') (h':k q'= .ok w q₂) (e:dA o v w q₂= .ok b q₃):bi o m k q= .ok b q₃:=bq h (bq h' (bq e rfl))
theorem g_cmpB {o:CmpOp} {m k:Cm V} {b:Bool} {q₂ q₃:S} (h:m q= .ok v q') (h':k q'= .ok w q₂) (e:dA o v w q₂= .ok b q₃):tK o m k q= .ok (.bool b) q₃:=bq h (bq h' (bq e rfl))
theorem g_bin {f:V->V->Cm V} {m k:Cm V} {q₂:S} {r:sG S V} (h:m q= .ok v q') (h':k q'= .ok w q₂) (e:f v w q₂=r):az f m k q=r:=bq h (bq h' e)
theorem g_meth {c f:String} {F:Fc} {m:Cm V} {k:Cm (List V)} {vs:List V} {q₂ q₃:S} {r:sG S V} (h:m q= .ok v q') (h':d5 c f v q'= .ok () q₂) (h2:k q₂= .ok vs q₃) (e:bD F (v::vs) q₃=r):aZ c f F m k q=r:=bq h (bq h' (bq h2 e))
theorem g_bm {d:Bool} {f:V->V->Cm V} {m k:Cm V} {q₂ q₃:S} {r:sG S V} (h:m q= .ok v q') (h':fV v q'= .ok d q₂) (h2:k q₂= .ok w q₃) (e:f v w q₃=r):tJ d f m k q=r:=bq h (bq h' ((congrFun (if_pos rfl) q₂).trans (bq h2 e)))
theorem g_st (e:upd l x v=l'):aP x v ⟨l,H⟩= .ok .next ⟨l',H⟩:=by rw [<- e];rfl
theorem bx {m:Cm α} {f:α->Cm β} {c:String} (h:m q= .exc c q'):(m.b f) q= .exc c q':=by rw [rZ,h]
theorem g_get (h:l x=some v):af x ⟨l,H⟩= .ok v ⟨l,H⟩:=by rw [Jm,h]
theorem g_set (e:upd l x v=l'):aL x v ⟨l,H⟩= .ok () ⟨l',H⟩:=by rw [zQ,e]
theorem g_call {F:Fc} {vs:List V} (h:F vs H= .ok v H'):bD F vs ⟨l,H⟩= .ok v ⟨l,H'⟩:=by rw [uF,h]
theorem tu {F:Fc} {vs:List V} {c:String} (h:F vs H= .exc c H'):bD F vs ⟨l,H⟩= .exc c ⟨l,H'⟩:=by rw [uF,h]
theorem it_t {b:Bool} {m m':Cm α} {r:sG S α} (hb:b=true) (h:m q=r):(if b=true then m else m') q=r:=by rw [hb];exact h
theorem it_f {b:Bool} {m m':Cm α} {r:sG S α} (hb:b=false) (h:m' q=r):(if b=true then m else m') q=r:=by rw [hb];exact h
theorem it_k {b:Bool} {m m':Cm α} {r:sG S α} (hb:b=false) (h:m q=r):(if b=false then m else m') q=r:=by rw [hb];exact h
theorem fN {i j k:Int} (h:j≠0) (e:i.fdiv j=k):cT (.int i) (.int j) q= .ok (.int k) q:=by rw [<- e];exact congrFun (if_neg h) q
theorem dX {i j k:Int} (h:j≠0) (e:i.fmod j=k):bS (.int i) (.int j) q= .ok (.int k) q:=by rw [<- e];exact congrFun (if_neg h) q
theorem xO {n:Nat} {vs:List V} {i:Int} {v:V} {l:bp} (h:H[n]? = some (.list vs)) (h0:0<=i/\i<1000000) (hv:vs[i.toNat]? = some v):aJ (.ref n) (.int i) ⟨l,H⟩= .ok v ⟨l,H⟩:=by unfold aJ;dsimp only;rw [h];dsimp only;rw [if_pos h0,hv]
theorem I2 {i j:Nat} {xs ys:List V} {l:bp} (h1:H[i]? = some (.list xs)) (h2:H[j]? = some (.list ys)) (h:xs.length+ys.length<=1000000):dq (.ref i) (.ref j) ⟨l,H⟩= .ok (.ref H.length) ⟨l,H++[.list (xs++ys)]⟩:=by unfold dq;dsimp only;rw [h1,h2];dsimp only;rw [if_pos h]
theorem bX {i:Nat} {xs:List V} (h:H[i]? = some (.list xs)):av (.ref i) H=some xs:=by unfold av;dsimp only;rw [h]
theorem I5 {i:Nat} {xs:List V} (h:q.H[i]? = some (.list xs)) (hl:xs.length<1000000):dY [.ref i] q= .ok (.int xs.length) q:=by unfold dY;dsimp only;rw [h];exact if_pos hl
theorem fg {c f:String} {i:Nat} {fs:List (String×V)} (h:H[i]? = some (.flds fs)) (hv:fs.lookup f=some v):aE f (.inst c i) ⟨l,H⟩= .ok v ⟨l,H⟩:=by rw [E6,h];dsimp only;rw [hv]
theorem xq {c f:String} {i:Nat} {fs:List (String×V)} (h:H[i]? = some (.flds fs)) (hl:fs.length<100):b7 f v (.inst c i) ⟨l,H⟩= .ok () ⟨l,H.set i (.flds (vD f v fs))⟩:=by rw [Dk,h];exact if_pos hl
theorem kg {c f:String} {i:Nat} {fs:List (String×V)} {v:V} (h:H[i]? = some (.flds fs)) (hv:fs.lookup f=some v):aE f (.inst c i) ⟨l,H⟩= .ok v ⟨l,H⟩:=by rw [E6,h];dsimp only;rw [hv]
theorem eY {c f:String} {i:Nat} {fs:List (String×V)} (h:H[i]? = some (.flds fs)) (hv:fs.lookup f=none):d5 c f (.inst c i) ⟨l,H⟩= .ok () ⟨l,H⟩:=by rw [E7,if_pos rfl,h];dsimp only;rw [hv]
theorem nE {c f:String} {fs:List (String×V)} {os:List O} (hl:fs.length<100):b7 f v (.inst c H.length) ⟨l,H ++ .flds fs::os⟩= .ok () ⟨l,H ++ .flds (vD f v fs)::os⟩:=by
 rw [xq (by rw [aar (aaK _),Nat.sub_self];rfl) hl,List.set_append_right _ _ (aaK _),Nat.sub_self];rfl
theorem xR {α:Type} {i:Nat} {a:α} {f:α->V} {k:Int} (h:H[i]? = some (.list [f a])) (hk:0<=k/\k<=1000000):ik (.ref i) (.int k) ⟨l,H⟩= .ok (.ref H.length) ⟨l,H++[.list ((List.replicate k.toNat a).map f)]⟩:=by
 haveI h2:∀n,(List.replicate n [f a]).flatten=(List.replicate n a).map f:=λn=>by
  induction n with
  | zero=>rfl
  | succ n ih=>rw [List.replicate_succ,List.flatten_cons,ih];rfl
 unfold ik;dsimp only;rw [h];dsimp only
 rw [if_pos ⟨rfl,hk⟩,h2]
theorem xF {n:Nat} {vs:List V} (h:H[n]? = some (.list (v::vs))):aJ (.ref n) (.int 0) ⟨l,H⟩= .ok v ⟨l,H⟩:=by unfold aJ;dsimp only;rw [h];rfl
theorem zR (a:Int) (n:Nat):bN a (n+1)= .int a::bN (a+1) n:=rfl
theorem BM (xs ys:List PyData):PyData.eqv (.tuple xs) (.tuple ys)=PyData.eqvAll xs ys:=rfl
theorem mC (x y:PyData) (xs ys:List PyData):PyData.eqvAll (x::xs) (y::ys)=(PyData.eqv x y&&PyData.eqvAll xs ys):=rfl
theorem De {α β:Type} (f:α->Option β) (x:α) (xs:List α):dt f (x::xs)=(f x).bind λd=>(dt f xs).map (d :: ·):=rfl
theorem lH {i j:Int} {b:Bool} (h:decide (i=j)=b):nZ (.int i) (.int j) q= .ok b q:=by rw [uG,h]
theorem g_ceq {i j:Int} {b:Bool} (h:decide (i=j)=b):dA .Eq (.int i) (.int j) q= .ok b q:=lH h
theorem g_cgt {i j:Int} {b:Bool} (h:decide (i>j)=b):dA .Gt (.int i) (.int j) q= .ok b q:=by rw [<- h];rfl
theorem g_clt {i j:Int} {b:Bool} (h:decide (i<j)=b):dA .Lt (.int i) (.int j) q= .ok b q:=by rw [<- h];rfl
theorem g_cle {i j:Int} {b:Bool} (h:decide (i<=j)=b):dA .LtE (.int i) (.int j) q= .ok b q:=by rw [<- h];rfl
theorem g_ceqv {b:Bool} (h:nZ v w q= .ok b q):dA .Eq v w q= .ok b q:=h
theorem g_cin {b:Bool} (h:tY v w q= .ok b q):dA .In v w q= .ok b q:=h
theorem g_pur {a b:α} (h:a=b):Cm.p a q= .ok b q:=by rw [h];rfl
theorem g_ne {b:Bool} (h:nZ v w q= .ok b q):dA .NotEq v w q= .ok (!b) q:=bq h rfl
theorem g_nin {b:Bool} (h:tY v w q= .ok b q):dA .NotIn v w q= .ok (!b) q:=bq h rfl
theorem g_nt2:lg [v,w] q= .ok (.tup [v,w]) q:=by unfold lg;rw [if_pos (by simp)];rfl
theorem g_nt3:lg [v,w,u] q= .ok (.tup [v,w,u]) q:=by unfold lg;rw [if_pos (by simp)];rfl
theorem g_nl0 (e:H++[.list []]=H'):eU [] ⟨l,H⟩= .ok (.ref H.length) ⟨l,H'⟩:=by rw [mX,if_pos (by simp),e]
theorem ah (e:upd l x v=l') (hn:y≠x) (b:l y=some w):l' y=some w:=by rw [<- e,eP _ _ hn];exact b
theorem ay (e:upd l x v=l'):l' x=some v:=by rw [<- e,nv]
theorem ly (e:upd (upd l x v) z u=l') (h1:y≠z) (h2:y≠x) (b:l y=some w):l' y=some w:=by rw [<- e,eP _ _ h1,eP _ _ h2];exact b
theorem yC (e:upd (upd l x v) z u=l') (h1:x≠z):l' x=some v:=by rw [<- e,eP _ _ h1,nv]
theorem gh {caps:List String} (hn:y≠x) (hm:y∈caps) (b:l y=some w):upd (gn caps l) x v y=some w:=by rw [eP _ _ hn,Cr hm];exact b
end
local macro_rules
  | `(tactic| exists $xs,*) => do
    let x:=xs.getElems
    let y:=x
    let f <- `(tactic| with_reducible first $[| exact $x]* $[| exact $y _]*)
    let r <- `(tactic| exact rfl)
    let s <- `(tactic| skip)
    let b:=("g_a1 g_cons g_item g_cmp g_cmpB g_bin g_meth g_bm g_st bq g_nt2 g_nt3 g_get g_set g_call it_t it_f it_k g_ceq g_cgt g_clt g_cle g_ceqv g_cin g_ne g_nin g_nl0 g_pur it_t it_f it_k".splitOn " ").toArray.map λs=>Lean.mkIdent (.str `Mine.Lake s)
    let k := #[s,s,s,s,s,s,s,s,f,s,s,s]++Array.replicate 13 f ++ #[f,f,f,r,r,r]
    `(tactic| (apply Mine.Lake.bq) <;> repeat' (first $[| (with_reducible apply $b; $k:tactic)]* | $f:tactic | $r:tactic | apply Mine.Lake.bq | exact Mine.Lake.uG _ _ _))
noncomputable def cc (a:Int):List Bool->List Int
 | []=>[]
 | true::r=>a::cc (a+1) r
 | false::r=>cc (a+1) r
theorem GK (a:Int) (r:List Bool):cc a (true::r)=a::cc (a+1) r:=rfl
theorem GJ (a:Int) (r:List Bool):cc a (false::r)=cc (a+1) r:=rfl
noncomputable def Jl:V->Option V
 | .tup [.int i,.bool b]=>if b then some (.int i) else none
 | _=>none
theorem o9:∀(bs:List Bool) (a:Int),(gr a (bs.map V.bool)).filterMap Jl=(cc a bs).map V.int
 | [],_=>rfl
 | false::r,a=>o9 r (a+1)
 | true::r,a=>congrArg (V.int a :: ·) (o9 r (a+1))
section
variable (H:Hp)
theorem gE (i:Int):pI [.int i] H= .ok (.bool true) H:=rfl
theorem lA (i:Int):ft [.int i] H= .ok (.bool true) H:=rfl
theorem jK (i a b:Int):jT [.int i,.int a,.int b] H= .ok (.bool (decide (a<=i/\i<=b))) H:=by
 rw [Bool.decide_and]
 refine bg (m:=wK) (q:=⟨a9 ["number", "least", "most"] [.int i,.int a,.int b],H⟩) rfl ?_
 cases h1:decide (a<=i)<;>exists gE H i,h1
theorem rE (k:Int) (h0:0<=k) (h1:k<1000):∃c,cg [.scr,.int k] H= .ok (.int c) H:=by
 haveI h6:0<=k/\k<1000000:=⟨h0,by exact bY 0xf4240a090003e8a0911 h1⟩
 by_cases h2:k<(sn.length:Int)
 ·have h3:k.toNat<sn.length:=by exact jF 0x1101fa10f0912 h2 (aah h0)
  haveI h4:sn[k.toNat]? = some sn[k.toNat]:=aal h3
  haveI h5:∀q,aJ .scr (.int k) q= .ok (.int sn[k.toNat]) q:=λq=>by unfold aJ;dsimp only;rw [if_pos h6,h4]
  haveI h7:=decide_eq_true h2
  refine ⟨sn[k.toNat],bg (m:=jD) (q:=⟨a9 ["_law_script", "_law_k"] [.scr,.int k],H⟩) rfl (fS ?_)⟩
  exists h7,h5
 ·haveI h7:=decide_eq_false h2
  refine ⟨0,bg (m:=jD) (q:=⟨a9 ["_law_script", "_law_k"] [.scr,.int k],H⟩) rfl (ak (q':=⟨a9 ["_law_script", "_law_k"] [.scr,.int k],H⟩) ?_ rfl)⟩
  exists h7
structure jO (len:Int) (xs:List Int):Prop where
 rise:xs.Pairwise (· < ·)
 low:∀x∈xs,1<=x
 top:∀x∈xs,x<=len
theorem jO.snoc {len b:Int} {xs:List Int} (h:jO len xs) (hb:∀x∈xs,x<b) (h1:1<=b) (h2:b<=len):jO len (xs++[b]):=by
 refine ⟨aan.mpr ⟨h.rise,by simp,λx hx y hy=> ?_⟩,λx hx=> ?_,λx hx=> ?_⟩
 ·simp at hy;subst hy;exact hb x hx
 ·rcases aap.mp hx with h3 | h3
  ·exact h.low x h3
  ·simp at h3;exact id (pD 0x119801b1019812 h1 h3)
 ·rcases aap.mp hx with h3 | h3
  ·exact h.top x h3
  ·simp at h3;exact id (tZ 0x12802a110812 h2 h3)
theorem Hc {H:Hp} {l:bp} {i:Nat} {vs:List V} (h:H[i]? = some (.list vs)):fV (.ref i) ⟨l,H⟩= .ok true ⟨l,H⟩:=by rw [xZ,h]
structure SB (o:Nat) (len span b r:Int) (l:bp):Prop where
 f:l "_law_found" = some (.ref o)
 b:l "_law_before" = some (.int b)
 r:l "_law_rest" = some (.int r)
 s:l "_law_span" = some (.int span)
 n:l "_law_length" = some (.int len)
theorem lB (len span:Int) (hs:1<=span):∀(ys:List V) (l:bp) (xs:List Int) (b r:Int),SB H.length len span b r l->jO len xs->(∀x∈xs,x<=b)->0<=b->xs.length+ys.length<=8 ->
  ∃l' xs',df (λ_=>True) (aL "_law_turn") (jP) ys ⟨l,H++[.list (xs.map V.int)]⟩= .ok .next ⟨l',H++[.list (xs'.map V.int)]⟩/\l' "_law_found" = some (.ref H.length)/\l' "_law_length" = some (.int len)/\jO len xs'/\xs'.length<=8
 | [],l,xs,b,r,hl,hx,_,_,h8=>⟨l,xs,rfl,hl.f,hl.n,hx,h8⟩
 | y::ys,l,xs,b,r,hl,hx,hb,h0,h8=>by
  refine nH λG kG=> ?_
  have m:=bT r span (by exact bY 0x99019811 hs)
  refine bz (b+1+r.fmod span) λb' eb=> ?_
  refine bz (upd l "_law_turn" y) λl1 e1=> ?_
  refine bz (upd l1 "_law_before" (.int b')) λl2 e2=> ?_
  refine bz (upd l2 "_law_rest" (.int (r.fdiv span))) λl3 e3=> ?_
  have c3:=ah e1 ∅ hl.r
  have c4:=ah e1 ∅ hl.s
  have c5:=ah e2 ∅ c4
  have c6:=ah e3 ∅ (ay e2)
  have f:=ah e3 ∅ (ah e2 ∅ (ah e1 ∅ hl.f))
  have n:=ah e3 ∅ (ah e2 ∅ (ah e1 ∅ hl.n))
  have L3:SB H.length len span b' (r.fdiv span) l3:=⟨f,c6,ay e3,ah e3 ∅ c5,n⟩
  haveI md:∀q,bS (.int r) (.int span) q= .ok (.int (r.fmod span)) q:=λq=>dX (by exact λx9=>bY 0x9096090a1019812 hs x9) rfl
  haveI dv:∀q,cT (.int r) (.int span) q= .ok (.int (r.fdiv span)) q:=λq=>fN (by exact λx9=>bY 0x9096090a1019812 hs x9) rfl
  haveI ad:∀q,dq (.int (b+1)) (.int (r.fmod span)) q= .ok (.int b') q:=λq=>by rw [<- eb];rfl
  rw [aas] at h8
  have go:∀ {xs':List Int},(∀ {R:Cm Fl},R ⟨l3,H++[.list (xs.map V.int)]⟩= .ok .next ⟨l3,H++[.list (xs'.map V.int)]⟩->(aB ((((af "_law_before").b λv18=>(Cm.p (V.int 1)).b λv19=>dq v18 v19).b λv22=>((af "_law_rest").b λv20=>(af "_law_span").b λv21=>bS v20 v21).b λv23=>dq v22 v23).b λv24=>(aL "_law_before" v24).b λ_=>Cm.p Fl.next) (aB (((af "_law_rest").b λv25=>(af "_law_span").b λv26=>cT v25 v26).b λv27=>(aL "_law_rest" v27).b λ_=>Cm.p Fl.next) R)) ⟨l1,H++[.list (xs.map V.int)]⟩= .ok .next ⟨l3,H++[.list (xs'.map V.int)]⟩):=λ{xs'} {R} hR=>by
   refine ak (q':=⟨l2,H++[.list (xs.map V.int)]⟩) ?_ (ak (q':=⟨l3,H++[.list (xs.map V.int)]⟩) ?_ hR)
   ·exists ah e1 ∅ hl.b,c3,c4,md,ad,e2
   ·exists ah e2 ∅ c3,c5,dv,e3
  by_cases hle:b'<=len
  ·haveI k:decide (b'<=len)=true:=decide_eq_true hle
   obtain ⟨l',xs',t,z⟩:=lB len span hs ys l3 (xs++[b']) b' _ L3 (hx.snoc (λx hx=>by haveI:=hb x hx;exact id (AV 0x239138120191cca1009813 m.1 eb this)) (by exact tZ 0x219821190cca110981009813 h0 m.1 eb) hle) (λx hm=>(aap.mp hm).elim (λhm=>by haveI:=hb x hm;exact id (AV 0x238138120191cca1009813 m.1 eb this)) λhm=>by rw [aaj.mp hm];exact Int.le_refl _) (by exact tZ 0x209821190cca110981009813 h0 m.1 eb) (by rw [aac,aa2];exact id (cu 0x891190cc089191c0c011 h8))
   haveI ap:=mW (.int b') l3 (H++[.list (xs.map V.int)]) (aN _ _) (by rw [aad];exact id (cu 0xf4240a0189191c0c011 h8))
   haveI es:(H++[O.list (xs.map V.int)]).set H.length (.list (xs.map V.int++[.int b']))=H++[.list ((xs++[b']).map V.int)]:=by rw [wI,List.map_append];rfl
   rw [es] at ap
   refine kG ⟨l',xs',(bP (q':=⟨l3,H++[.list ((xs++[b']).map V.int)]⟩) (bq (g_set e1) (go ?_)) trivial).trans t,z⟩
   exists c6,n,k,f,Hc (aN _ _),ap
  ·haveI k:decide (b'<=len)=false:=decide_eq_false hle
   obtain ⟨l',xs',t,z⟩:=lB len span hs ys l3 xs b' _ L3 hx (λx hm=>by haveI:=hb x hm;exact id (AV 0x238138120191cca1009813 m.1 eb this)) (by exact tZ 0x209821190cca110981009813 h0 m.1 eb) (by exact cu 0x8910c089191c0c011 h8)
   refine kG ⟨l',xs',(bP (q':=⟨l3,H++[.list (xs.map V.int)]⟩) (bq (g_set e1) (go ?_)) trivial).trans t,z⟩
   exists c6,n,k
theorem Bp (c len many:Int) (h1:1<=len) (h2:1<=many) (h3:many<=8) :
  ∃v H',iE [.int c,.int len,.int many] H= .ok v H'/\ ∃xs,v= .ref H.length/\H<+:H'/\H'[H.length]? = some (.list (xs.map .int))/\jO len xs/\xs≠[]/\xs.length<=8:=by
 refine nH λG kG=> ?_
 refine bz (a9 ["_law_cell", "_law_length", "_law_many"] [.int c,.int len,.int many]) λl0 e0=> ?_
 refine bz (upd l0 "_law_found" (.ref H.length)) λl1 e1=> ?_
 refine bz (upd l1 "_law_before" (.int 0)) λl2 e2=> ?_
 refine bz (upd l2 "_law_rest" (.int (c.fdiv 3))) λl3 e3=> ?_
 refine bz (upd l3 "_law_span" (.int 4)) λl4 e4=> ?_
 have k:∀ {x:String} {v:V},l0 x=some v->x∉["_law_found", "_law_before", "_law_rest", "_law_span"]->l2 x=some v/\l4 x=some v:=λ{x v} h hx=>by
  haveI n1:x ≠ "_law_found" := λe=>hx (e ▸ .head _)
  haveI n2:x ≠ "_law_before" := λe=>hx (e ▸ .tail _ (.head _))
  haveI n3:x ≠ "_law_rest" := λe=>hx (e ▸ .tail _ (.tail _ (.head _)))
  haveI n4:x ≠ "_law_span" := λe=>hx (e ▸ .tail _ (.tail _ (.tail _ (.head _))))
  have h2:=ah e2 n2 (ah e1 n1 h)
  exact ⟨h2,ah e4 n4 (ah e3 n3 h2)⟩
 have kc:=k (x := "_law_cell") (v:= .int c) (e0▸rfl) ∅
 have kn:=(k (x := "_law_length") (v:= .int len) (e0▸rfl) ∅).2
 have km:=(k (x := "_law_many") (v:= .int many) (e0▸rfl) ∅).2
 haveI d3:∀q,cT (.int c) (.int 3) q= .ok (.int (c.fdiv 3)) q:=λq=>fN ∅ rfl
 have m3:∀q,bS (.int c) (.int 3) q= .ok (.int (c.fmod 3)) q:=λq=>dX ∅ rfl
 have L4:SB H.length len 4 0 (c.fdiv 3) l4:=⟨ah e4 ∅ (ah e3 ∅ (ah e2 ∅ (ay e1))),ah e4 ∅ (ah e3 ∅ (ay e2)),ah e4 ∅ (ay e3),ay e4,kn⟩
 obtain ⟨span,l5,hs,L5,km5,t5⟩:∃span l5,1<=span/\SB H.length len span 0 (c.fdiv 3) l5/\l5 "_law_many" = some (.int many)/\j6 ⟨l4,H++[.list []]⟩= .ok .next ⟨l5,H++[.list []]⟩:=by
  by_cases hc:c.fmod 3=0
  ·haveI kk:decide (c.fmod 3=0)=true:=decide_eq_true hc
   refine bz (upd l4 "_law_span" (.int len)) λl5 e5=> ?_
   refine ⟨len,l5,h1,⟨ah e5 ∅ L4.f,ah e5 ∅ L4.b,ah e5 ∅ L4.r,ay e5,ah e5 ∅ kn⟩,ah e5 ∅ km,?_⟩
   exists kc.2,m3,kk,kn,e5
  ·haveI kk:decide (c.fmod 3=0)=false:=decide_eq_false hc
   refine ⟨4,l4,by decide,L4,km,?_⟩
   exists kc.2,m3,kk
 obtain ⟨l6,xs,t6,i1,i5,i7,i10⟩:=lB H len span hs (bN 0 many.toNat) l5 [] 0 _ L5 ⟨.nil,λ_ h=>(nomatch h),λ_ h=>(nomatch h)⟩ (λ_ h=>(nomatch h)) (Int.le_refl _) (by rw [gm,List.length_nil];exact id (ge 0x89009c000fa1890812 h3 (aah (bY 0x98019811 h2))))
 haveI rv:=j3 many ⟨l5,H++[.list []]⟩ ⟨by exact bY 0xf4240a1b9019811 h2,by exact bY 0xf4240a09890811 h3⟩
 have q0:=jZ (q:=⟨l6,H++[O.list (xs.map V.int)]++[O.list []]⟩) (i:=H.length) (j:=(H++[O.list (xs.map V.int)]).length) (xs:=xs) (ys:=[]) (aA ⟨_,rfl⟩ (aN _ _)) (aN _ _)
 have iG:∀ {ys:List Int},j7 ⟨l6,H++[.list (xs.map V.int)]⟩= .ok .next ⟨l6,H++[O.list (ys.map V.int)]++[O.list []]⟩->jO len ys->ys≠[]->ys.length<=8->G:=λ{ys} t7 s1 s2 s3=>by
  refine kG ⟨.ref H.length,H++[O.list (ys.map V.int)]++[O.list []],bg (m:=mQ) (q:=⟨l6,H++[O.list (ys.map V.int)]++[O.list []]⟩) rfl ?_,ys,rfl,(aav _ _).trans (aav _ _),aA ⟨_,rfl⟩ (aN _ _),s1,s2,s3⟩
  rw [e0]
  refine ak (q':=⟨l1,H++[.list []]⟩) (bq (bq rfl (g_nl0 rfl)) (bq (g_set e1) rfl)) (ak (q':=⟨l2,H++[.list []]⟩) (bq rfl (bq (g_set e2) rfl)) (ak (q':=⟨l3,H++[.list []]⟩) ?_ (ak (q':=⟨l4,H++[.list []]⟩) (bq rfl (bq (g_set e4) rfl)) (ak t5 (ak (q':=⟨l6,H++[O.list (xs.map V.int)]⟩) (bq (a:=⟨bN 0 many.toNat,λ_=>True⟩) (q':=⟨l5,H++[O.list []]⟩) (bq (bq (g_get km5) (bq rfl rfl)) rv) t6) (ak t7 (bq (g_get i1) rfl)))))))
  exists kc.1,d3,e3
 by_cases hx:xs=[]
 ·subst hx
  haveI ap:=mW (.int len) l6 (H++[O.list []]++[O.list []]) (i:=H.length) (xs:=[]) (aA ⟨_,rfl⟩ (aN _ _)) ∅
  haveI es:(H++[O.list []]++[O.list []]).set H.length (.list ([]++[.int len]))=H++[.list ([len].map V.int)]++[O.list []]:=by rw [List.set_append_left _ _ (by rw [aac];exact Nat.lt_succ_self _),wI];rfl
  rw [es] at ap
  refine iG (ys:=[len]) ?_ ⟨abb _ _,λx hx=>by rw [aaj.mp hx];exact h1,λx hx=>by rw [aaj.mp hx];exact Int.le_refl _⟩ (List.cons_ne_nil _ _) (aba rfl)
  exact bq (bq (g_get i1) (bq (bq rfl (g_nl0 rfl)) (bq (g_ceqv q0) rfl))) (it_t rfl (bq (bq (g_get i1) (bq (Hc (aA ⟨_,rfl⟩ (aN H _))) (it_t rfl (bq (g_get i5) ap)))) rfl))
 ·rw [decide_eq_false hx] at q0
  refine iG (ys:=xs) ?_ i7 hx i10
  exists i1,q0
noncomputable def iN (p len:Int) (m:Nat):List (String×V):=[("pages",.int p),("length",.int len),("sizes",.ref m)]
theorem EZ (p len:Int) (m:Nat):(iN p len m).lookup "pages" = some (.int p):=rfl
theorem wP (p len:Int) (m:Nat):(iN p len m).lookup "length" = some (.int len):=rfl
theorem uD (p len:Int) (m:Nat):(iN p len m).lookup "sizes" = some (.ref m):=rfl
theorem Id (p len:Int) (m:Nat):(iN p len m).lookup "size_for" = none:=rfl
theorem E0 (p len:Int) (m:Nat):(iN p len m).lookup "per" = none:=rfl
structure AE (H:Hp) (i:Nat) (p len:Int) (xs:List Int):Prop where
 at':∃m,H[i]? = some (.flds (iN p len m))/\H[m]? = some (.list (xs.map V.int))
structure JX (n j:Nat) (p len last:Int) (l:bp):Prop where
 la:l "last" = some (.int last)
 le:l "length" = some (.int len)
 se:l "self" = some (.inst "Plan" n)
 pa:l "pages" = some (.int p)
 si:l "sizes" = some (.ref j)
theorem sw (n j:Nat) (p len:Int) (zs:List V) (hj:av (.ref j) H=some zs):∀(ys:List Int) (l:bp) (last:Int),JX n j p len last l->(∀y∈ys,last<y/\y<=len)->ys.Pairwise (· < ·) ->
  ∃l' last',df (λH=>av (.ref j) H=some zs) (aL "size") (oj) (ys.map V.int) ⟨l,H⟩= .ok .next ⟨l',H⟩/\JX n j p len last' l'
 | [],l,last,h,_,_=>⟨l,last,rfl,h⟩
 | y::ys,l,last,h,h7,h8=>by
  refine nH λG kG=> ?_
  refine bz (upd l "size" (.int y)) λl1 e1=> ?_
  refine bz (upd l1 "last" (.int y)) λl2 e2=> ?_
  haveI hy:=h7 y (.head _)
  haveI bt:=jK H y (last+1) len
  rw [decide_eq_true (show last+1<=y/\y<=len from hy)] at bt
  have n1:=ah e1 ∅ h.le
  have h8':=aaI.mp h8
  obtain ⟨l',last',t,z⟩:=sw n j p len zs hj ys l2 y ⟨ay e2,ah e2 ∅ n1,ah e2 ∅ (ah e1 ∅ h.se),ah e2 ∅ (ah e1 ∅ h.pa),ah e2 ∅ (ah e1 ∅ h.si)⟩ (λz hz=>⟨h8'.1 z hz,(h7 z (.tail _ hz)).2⟩) h8'.2
  refine kG ⟨l',last',(bP (q':=⟨l2,H⟩) (bq (g_set e1) (ak (q':=⟨l1,H⟩) ?_ ?_)) hj).trans t,z⟩
  ·exists ay e1,ah e1 ∅ h.la,n1,bt
  ·exists ay e1,e2
theorem Ix (n j:Nat) (p len:Int) (xs:List Int) (hp:1<=p/\p<=40) (hl:1<=len/\len<=60) (hx:jO len xs) (hne:xs≠[]) (h8:xs.length<=8) (hn:H[n]? = some (.flds [])) (hj:H[j]? = some (.list (xs.map V.int))) :
  jh [.inst "Plan" n,.int p,.int len,.ref j] H= .ok .none ((H++[O.list (xs.map V.int)]).set n (.flds (iN p len H.length))):=by
 obtain ⟨R,eR⟩:∃R,(H++[O.list (xs.map V.int)]).set n (.flds (iN p len H.length))=R:=⟨_,rfl⟩
 rw [eR]
 have hnj:n≠j:=λe=>by rw [e,hj] at hn;cases hn
 have hnl:n<H.length:=(aaa.mp hn).1
 have hit:av (.ref j) H=some (xs.map V.int):=bX hj
 haveI hlen:decide (1<=((xs.map V.int).length:Int))=true:=decide_eq_true (by
  cases xs with
  | nil=>exact absurd rfl hne
  | cons x xs=>rw [aad,aas];exact id (b9 0x190cf1980))
 haveI hlen8:decide (((xs.map V.int).length:Int)<=8)=true:=decide_eq_true (by rw [aad];exact id (b9 0x890f8890011 h8))
 have hlm:(xs.map V.int).length<1000000:=by rw [aad];exact id (b9 0xf4240a01890011 h8)
 obtain ⟨l0,e0,a1,a2,a3,a4⟩:∃l0,a9 ["self", "pages", "length", "sizes"] [.inst "Plan" n,.int p,.int len,.ref j]=l0/\l0 "self" = some (.inst "Plan" n)/\l0 "pages" = some (.int p)/\l0 "length" = some (.int len)/\l0 "sizes" = some (.ref j):=⟨_,rfl,rfl,rfl,rfl,rfl⟩
 obtain ⟨l1,e1⟩:∃l1,upd l0 "last" (.int 0)=l1:=⟨_,rfl⟩
 have a5:=ah e1 ∅ a4
 obtain ⟨l',last,hq,hI⟩:=sw H n j p len _ hit xs l1 0 ⟨ay e1,ah e1 ∅ a3,ah e1 ∅ a1,ah e1 ∅ a2,a5⟩ (λy hy=>⟨hx.low y hy,hx.top y hy⟩) hx.rise
 haveI b1:=jK H p 1 40
 haveI b2:=jK H len 1 60
 rw [decide_eq_true hp] at b1
 rw [decide_eq_true hl] at b2
 haveI ty:∀l,pM "list" (.ref j) ⟨l,H⟩= .ok (.bool true) ⟨l,H⟩:=λl=>by
  haveI:yB H (.ref j)=some "list" := by unfold yB;dsimp only;rw [hj]
  rw [He,this];rfl
 haveI ln:∀l,dY [.ref j] ⟨l,H⟩= .ok (.int (xs.map V.int).length) ⟨l,H⟩:=λl=>I5 hj hlm
 obtain ⟨H1,f1⟩:∃H1,H.set n (.flds [("pages",.int p)])=H1:=⟨_,rfl⟩
 obtain ⟨H2,f2⟩:∃H2,H1.set n (.flds [("pages",.int p),("length",.int len)])=H2:=⟨_,rfl⟩
 haveI c1:H1[n]? = some (.flds [("pages",.int p)]):=by rw [<- f1];exact aaA hnl
 have l1':H1.length=H.length:=by rw [<- f1];exact List.length_set
 have l2':H2.length=H.length:=by rw [<- f2,List.length_set];exact l1'
 haveI c2:H2[n]? = some (.flds [("pages",.int p),("length",.int len)]):=by rw [<- f2];exact aaA (l1'▸hnl)
 haveI c3:H2[j]? = some (.list (xs.map V.int)):=by rw [<- f2,aaO hnj,<- f1,aaO hnj];exact hj
 haveI s7:∀l,ii [.ref j] ⟨l,H2⟩= .ok (.ref H.length) ⟨l,H2++[.list (xs.map V.int)]⟩:=λl=>by rw [uH l _ (bX c3) (Nat.le_of_lt hlm),l2']
 haveI c4:(H2++[O.list (xs.map V.int)])[n]? = some (.flds [("pages",.int p),("length",.int len)]):=aA ⟨_,rfl⟩ c2
 haveI e7:(H2++[O.list (xs.map V.int)]).set n (.flds (iN p len H.length))=R:=by
  rw [<- eR,List.set_append_left _ _ (l2'▸hnl),List.set_append_left _ _ hnl,<- f2,<- f1,List.set_set,List.set_set]
 haveI u1:∀l,b7 "pages" (.int p) (.inst "Plan" n) ⟨l,H⟩= .ok () ⟨l,H1⟩:=λl=>by rw [<- f1];exact xq hn ∅
 haveI u2:∀l,b7 "length" (.int len) (.inst "Plan" n) ⟨l,H1⟩= .ok () ⟨l,H2⟩:=λl=>by rw [<- f2];exact xq c1 (aba rfl)
 haveI u3:∀l,b7 "sizes" (.ref H.length) (.inst "Plan" n) ⟨l,H2++[O.list (xs.map V.int)]⟩= .ok () ⟨l,R⟩:=λl=>by rw [<- e7];exact xq c4 (aba rfl)
 refine nJ (m:=rN) (q:=⟨l',R⟩) rfl ?_
 rw [e0]
 refine ak (q':=⟨l0,H⟩) ?_ (ak (q':=⟨l0,H⟩) ?_ (ak (q':=⟨l1,H⟩) (bq rfl (bq (g_set e1) rfl)) (ak (q':=⟨l',H⟩) ?_ (ak (q':=⟨l',H1⟩) ?_ (ak (q':=⟨l',H2⟩) ?_ ?_)))))
 ·exists a2,a3,b1,b2
 ·exists a4,ty,ln,hlen,hlen8
 ·exact bq (bq (g_get a5) (by rw [rd,hit])) hq
 ·exists hI.pa,hI.se,u1
 ·exists hI.le,hI.se,u2
 ·exists hI.si,s7,hI.se,u3
theorem nz {g:Hp->Prop} {x w:String} (hxw:x≠w) {body:Cm Fl} (wish:Int) (hg:g H)
  (hb:∀l y,l x=some (.int y)->l w=some (.int wish)->body ⟨l,H⟩=if y>=wish then .ok (.ret (.int y)) ⟨l,H⟩ else .ok .next ⟨l,H⟩) :
  ∀(xs:List Int) (l:bp),l w=some (.int wish)-> ∃l',l' w=some (.int wish)/\df g (aL x) body (xs.map V.int) ⟨l,H⟩=match xs.find? (λx=>decide (x>=wish)) with | some y=> .ok (.ret (.int y)) ⟨l',H⟩ | none=> .ok .next ⟨l',H⟩
 | [],l,hw=>⟨l,hw,rfl⟩
 | y::ys,l,hw=>by
  have hw':upd l x (.int y) w=some (.int wish):=by rw [eP _ _ (Ne.symm hxw)];exact hw
  haveI:=hb (upd l x (.int y)) y (nv _ _ _) hw'
  have ht:((aL x (.int y)).b λ_=>body) ⟨l,H⟩=if y>=wish then .ok (.ret (.int y)) ⟨upd l x (.int y),H⟩ else .ok .next ⟨upd l x (.int y),H⟩:=by rw [rZ,zQ];exact this
  by_cases hy:y>=wish
  ·rw [if_pos hy] at ht
   refine ⟨upd l x (.int y),hw',?_⟩
   rw [aaq,tT ht,aaJ (by simpa using hy)]
  ·rw [if_neg hy] at ht
   rw [aaq,bP ht hg,aay (by simpa using hy)]
   exact nz hxw wish hg hb ys _ hw'
theorem Bo (i:Nat) (p len:Int) (xs:List Int) (wish:Int) (hi:AE H i p len xs):gP [.inst "Plan" i,.int wish] H =
  if wish<1 then .exc "BadWish" H else match xs.find? (λx=>decide (x>=wish)) with | some y=> .ok (.int y) H | none=> .exc "TooLarge" H:=by
 obtain ⟨m,h1,h2⟩:=hi.at'
 obtain ⟨l0,e0,a1,a2⟩:∃l0,a9 ["self", "wish"] [.inst "Plan" i,.int wish]=l0/\l0 "self" = some (.inst "Plan" i)/\l0 "wish" = some (.int wish):=⟨_,rfl,rfl,rfl⟩
 have hit:av (.ref m) H=some (xs.map V.int):=bX h2
 by_cases hw:wish<1
 ·haveI hd:=decide_eq_true hw
  rw [if_pos hw]
  refine mH (m:=fe) (q:=⟨l0,H⟩) rfl (nQ ?_)
  rw [e0]
  exists a2,gE H wish,hd
 ·haveI hd:=decide_eq_false hw
  rw [if_neg hw]
  have s1:ju ⟨l0,H⟩= .ok .next ⟨l0,H⟩:=by exists a2,gE H wish,hd
  obtain ⟨l',hw',hl⟩:=nz H (g:=λH=>av (.ref m) H=some (xs.map V.int)) (x := "size") (w := "wish") ∅ (body:=fB) wish hit
   (λl y h1 h2=>by
    by_cases hy:y>=wish
    ·rw [if_pos hy];exact bq (bq (g_get h1) (bq (g_get h2) rfl)) (it_t (decide_eq_true hy) (bq (g_get h1) rfl))
    ·rw [if_neg hy];exact bq (bq (g_get h1) (bq (g_get h2) rfl)) (it_f (decide_eq_false hy) rfl)) xs l0 a2
  have s2:jv ⟨l0,H⟩=df (λH=>av (.ref m) H=some (xs.map V.int)) (aL "size") (fB) (xs.map V.int) ⟨l0,H⟩ :=
   bq (bq (bq (g_get a1) (fg h1 (uD _ _ _))) (by rw [rd,hit])) rfl
  rw [hl] at s2
  cases hf:xs.find? (λx=>decide (x>=wish)) with
  | some y =>
   rw [hf] at s2
   exact bg (m:=fe) (q:=⟨l',H⟩) rfl (by rw [e0];exact ak s1 (fS s2))
  | none =>
   rw [hf] at s2
   exact mH (m:=fe) (q:=⟨l',H⟩) rfl (by rw [e0];exact ak s1 (ak s2 rfl))
theorem Jq (i:Nat) (p len:Int) (xs:List Int) (z:Int) (hi:AE H i p len xs) (hz:z∈xs->z≠0):iB [.inst "Plan" i,.int z] H=if z∈xs then .ok (.int (len.fdiv z)) H else .exc "NoSize" H:=by
 obtain ⟨m,h1,h2⟩:=hi.at'
 obtain ⟨l0,e0,a1,a2⟩:∃l0,a9 ["self", "size"] [.inst "Plan" i,.int z]=l0/\l0 "self" = some (.inst "Plan" i)/\l0 "size" = some (.int z):=⟨_,rfl,rfl,rfl⟩
 have hin:tY (.int z) (.ref m) ⟨l0,H⟩= .ok (decide (z∈xs)) ⟨l0,H⟩:=nN (q:=⟨l0,H⟩) h2
 by_cases hw:z∈xs
 ·rw [if_pos hw]
  rw [decide_eq_true hw] at hin
  refine bg (m:=pj) (q:=⟨l0,H⟩) rfl ?_
  rw [e0]
  refine ak (q':=⟨l0,H⟩) ?_ (bq (bq (bq (g_get a1) (fg h1 (wP _ _ _))) (bq (g_get a2) (fN (hz hw) rfl))) rfl)
  exists a1,a2,gE H z,fg h1 (uD _ _ _),hin
 ·rw [if_neg hw]
  rw [decide_eq_false hw] at hin
  refine mH (m:=pj) (q:=⟨l0,H⟩) rfl (nQ ?_)
  rw [e0]
  exists a1,a2,gE H z,fg h1 (uD _ _ _),hin
noncomputable def gS (p z:Int) (t:Nat):List (String×V):=[("page",.int p),("size",.int z),("taken",.ref t)]
theorem GG (p z:Int) (t:Nat):(gS p z t).lookup "page" = some (.int p):=rfl
theorem GH (p z:Int) (t:Nat):(gS p z t).lookup "size" = some (.int z):=rfl
theorem iS (p z:Int) (t:Nat):(gS p z t).lookup "taken" = some (.ref t):=rfl
theorem Fh (p z:Int) (t:Nat):(gS p z t).lookup "has" = none:=rfl
theorem Io (p z:Int) (t:Nat):(gS p z t).lookup "out" = none:=rfl
structure jf (H:Hp) (i t:Nat) (p z:Int) (bs:List Bool):Prop where
 ob:H[i]? = some (.flds (gS p z t))
 ls:H[t]? = some (.list (bs.map V.bool))
theorem Iz (p z k:Int) (hk:0<=k/\k<=1000) (l:bp):oM "Shelf" (hZ) [.int p,.int z,.int k] ⟨l,H⟩ =
  .ok (.inst "Shelf" H.length) ⟨l,H++[.flds (gS p z (H.length+2)),.list [.bool false],.list ((List.replicate k.toNat false).map V.bool)]⟩:=by
 obtain ⟨l0,e0,a1,a2,a3,a4⟩:∃l0,a9 ["self", "page", "size", "slots"] [.inst "Shelf" H.length,.int p,.int z,.int k]=l0/\l0 "self" = some (.inst "Shelf" H.length)/\l0 "page" = some (.int p)/\l0 "size" = some (.int z)/\l0 "slots" = some (.int k):=⟨_,rfl,rfl,rfl,rfl,rfl⟩
 obtain ⟨R,eR⟩:∃R,O.list ((List.replicate k.toNat false).map V.bool)=R:=⟨_,rfl⟩
 rw [eR]
 haveI hn:∀l,eU [.bool false] ⟨l,H++[.flds [("page",.int p),("size",.int z)]]⟩= .ok (.ref (H.length+1)) ⟨l,H++[.flds [("page",.int p),("size",.int z)],.list [.bool false]]⟩:=λl=>by
  rw [mX,if_pos (aba rfl),aac,aae];rfl
 haveI hm:∀l,ik (.ref (H.length+1)) (.int k) ⟨l,H++[.flds [("page",.int p),("size",.int z)],.list [.bool false]]⟩= .ok (.ref (H.length+2)) ⟨l,H++[.flds [("page",.int p),("size",.int z)],.list [.bool false],R]⟩:=λl=>by
  rw [xR (a:=false) (f:=V.bool) (by rw [aar (aaQ _ _),aaC];rfl) ⟨hk.1,aa8 hk.2 ∅⟩,eR,aac,aae];rfl
 rw [Bd,show hZ [.inst "Shelf" H.length,.int p,.int z,.int k] (H++[.flds []])= .ok .none (H++[.flds (gS p z (H.length+2)),.list [.bool false],R]) from ?_]
 refine nJ (m:=pW) (q:=⟨l0,H++[.flds (gS p z (H.length+2)),.list [.bool false],R]⟩) rfl ?_
 rw [e0]
 refine ak (q':=⟨l0,H++[.flds [("page",.int p)]]⟩) ?_ (ak (q':=⟨l0,H++[.flds [("page",.int p),("size",.int z)]]⟩) ?_ ?_)
 ·exists a1,a2,nE (fs:=[]) ∅
 ·exists a1,a3,nE (fs:=[("page",.int p)]) (aba rfl)
 ·exists hn,a4,hm,a1,nE (fs:=[("page",.int p),("size",.int z)]) (aba rfl)
section
variable {H} {i t:Nat} {p z:Int} {bs:List Bool} (hS:jf H i t p z bs) (hb:bs.length<=1000)
include hS hb
theorem wZ:∀(r:List Bool) (a:Nat) (l:bp),l "self" = some (.inst "Shelf" i)->bs.drop a=r ->
  (match bn r with
  | some j=> ∃l',df (λ_=>True) (aL "slot") (cP) (bN a r.length) ⟨l,H⟩= .ok (.ret (.int ((a+j:Nat):Int))) ⟨l',H.set t (.list ((bs.set (a+j) true).map V.bool))⟩
  | none=> ∃l',df (λ_=>True) (aL "slot") (cP) (bN a r.length) ⟨l,H⟩= .ok .next ⟨l',H⟩)
 | [],a,l,_,_=>⟨l,rfl⟩
 | b::r,a,l,h1,e=>by
  refine nH λG kG=> ?_
  have hg:bs[a]? = some b:=by
   haveI:(bs.drop a)[0]? = some b:=by rw [e];rfl
   rw [List.getElem?_drop] at this;exact this
  haveI hr:bs.drop (a+1)=r:=by rw [<- List.drop_drop,e];rfl
  have hlt:a<bs.length:=(aaa.mp hg).1
  have hi:∀l,aJ (.ref t) (.int a) ⟨l,H⟩= .ok (.bool b) ⟨l,H⟩:=λl=>r0 hS.ls (Int.natCast_nonneg _) (by exact cu 0xf4240a1f901110003e8a0012 hb hlt) hg
  refine bz (upd l "slot" (.int a)) λl1 e1=> ?_
  have b1:=ah e1 ∅ h1
  have b2:=ay e1
  have ta:=fg (l:=l1) (c := "Shelf") hS.ob (iS _ _ _)
  cases b with
  | false =>
   haveI hs:∀l,cY (.ref t) (.int a) (.bool true) ⟨l,H⟩= .ok () ⟨l,H.set t (.list ((bs.set a true).map V.bool))⟩:=λl=>mY hS.ls (Int.natCast_nonneg _) (by exact cu 0xf4240a1f901110003e8a0012 hb hlt) (by exact cu 0x1f0f910111 hlt)
   refine kG ⟨l1,tT (bq (g_set e1) (bq (a:=true) (q':=⟨l1,H⟩) ?_ (it_t rfl (ak (q':=⟨l1,H.set t (.list ((bs.set a true).map V.bool))⟩) ?_ (bq (g_get b2) rfl)))))⟩
   ·exists b1,ta,b2,hi
   ·exists b1,ta,b2,hs
  | true =>
   haveI ht:((aL "slot" (.int a)).b λ_=>cP) ⟨l,H⟩= .ok .next ⟨l1,H⟩:=bq (g_set e1) (by exists b1,ta,b2,hi)
   have ih:=wZ r (a+1) l1 b1 hr
   have g:∀x,df (λ_=>True) (aL "slot") (cP) (bN ((a+1:Nat):Int) r.length) ⟨l1,H⟩=x->df (λ_=>True) (aL "slot") (cP) (bN a (true::r).length) ⟨l,H⟩=x:=λx hx=>(bP ht trivial).trans hx
   rw [show bn (true::r)=(bn r).map (· + 1) from rfl] at kG
   cases hf:bn r with
   | none =>
    rw [hf] at ih kG
    obtain ⟨l',ih⟩:=ih
    exact kG ⟨l',g _ ih⟩
   | some j =>
    rw [hf] at ih kG
    obtain ⟨l',ih⟩:=ih
    rw [Nat.add_right_comm] at ih
    exact kG ⟨l',g _ ih⟩
theorem IE:fK [.inst "Shelf" i] H=match bn bs with
  | some j=> .ok (.int j) (H.set t (.list ((bs.set j true).map V.bool)))
  | none=> .exc "NoRoom" H:=by
 haveI hl:∀l,dY [.ref t] ⟨l,H⟩= .ok (.int bs.length) ⟨l,H⟩:=λl=>by rw [cE hS.ls (by rw [aad];exact id (b9 0xf4240a010003e8a0011 hb)),aad]
 haveI hr:∀q,fi [.int bs.length] q= .ok ⟨bN 0 bs.length,λ_=>True⟩ q:=λq=>by rw [j3 _ _ ⟨by exact b9 0xf0f4240a1b90,by exact b9 0xf4240a0f90003e8a0011 hb⟩];rfl
 obtain ⟨l0,e0,a1⟩:∃l0,a9 ["self"] [.inst "Shelf" i]=l0/\l0 "self" = some (.inst "Shelf" i):=⟨_,rfl,rfl⟩
 have h1:∀r,df (λ_=>True) (aL "slot") (cP) (bN 0 bs.length) ⟨l0,H⟩=r->nn ⟨l0,H⟩=r:=λr e=>by
  refine bq (a:=⟨bN 0 bs.length,λ_=>True⟩) (q':=⟨l0,H⟩) ?_ e
  exists a1,fg hS.ob (iS _ _ _),hl,hr
 have L:=wZ hS hb bs 0 l0 a1 rfl
 cases hf:bn bs with
 | none =>
  rw [hf] at L
  obtain ⟨l',L⟩:=L
  exact mH (m:=kW) (q:=⟨l',H⟩) rfl (by rw [e0];exact ak (h1 _ L) rfl)
 | some j =>
  rw [hf] at L
  obtain ⟨l',L⟩:=L
  rw [aa1] at L
  exact bg (m:=kW) rfl (by rw [e0];exact fS (h1 _ L))
theorem Hj (k:Int):jk [.inst "Shelf" i,.int k] H= .ok (.bool (oF bs k)) H:=by
 have hl:∀l,dY [.ref t] ⟨l,H⟩= .ok (.int bs.length) ⟨l,H⟩:=λl=>by rw [cE hS.ls (by rw [aad];exact id (b9 0xf4240a010003e8a0011 hb)),aad]
 obtain ⟨l0,e0,a1,a2⟩:∃l0,a9 ["self", "slot"] [.inst "Shelf" i,.int k]=l0/\l0 "self" = some (.inst "Shelf" i)/\l0 "slot" = some (.int k):=⟨_,rfl,rfl,rfl⟩
 have ta:=fg (l:=l0) (c := "Shelf") hS.ob (iS _ _ _)
 refine bg (m:=rT) (q:=⟨l0,H⟩) rfl ?_
 rw [e0]
 by_cases h0:0<=k
 ·have d0:=decide_eq_true h0
  by_cases h1:k<bs.length
  ·haveI d1:=decide_eq_true h1
   have hg:bs[k.toNat]? = some bs[k.toNat]:=aal (by exact jF 0x1101fa10f0912 h1 (aah h0))
   haveI hi:∀l,aJ (.ref t) (.int k) ⟨l,H⟩= .ok (.bool bs[k.toNat]) ⟨l,H⟩:=λl=>r0 hS.ls h0 (by exact ge 0xf4240a090f0910003e8a0012 hb h1) hg
   haveI e:oF bs k=bs[k.toNat]:=by unfold oF;rw [if_pos ⟨h0,h1⟩,hg];rfl
   rw [e]
   exists a1,a2,d0,ta,hl,d1,hi
  ·haveI d1:=decide_eq_false h1
   haveI e:oF bs k=false:=if_neg λh=>h1 h.2
   rw [e]
   exists a1,a2,d0,ta,hl,d1
 ·haveI d0:=decide_eq_false h0
  haveI e:oF bs k=false:=if_neg λh=>h0 h.1
  rw [e]
  exists a1,a2,d0
theorem Iw (k:Int):kx [.inst "Shelf" i,.int k] H=if oF bs k then .ok .none (H.set t (.list ((bs.set k.toNat false).map V.bool))) else .exc "NotOut" H:=by
 have hh:=Hj hS hb k
 obtain ⟨l0,e0,a1,a2⟩:∃l0,a9 ["self", "slot"] [.inst "Shelf" i,.int k]=l0/\l0 "self" = some (.inst "Shelf" i)/\l0 "slot" = some (.int k):=⟨_,rfl,rfl,rfl⟩
 have me:=eY (l:=l0) (c := "Shelf") hS.ob (Fh _ _ _)
 cases hg:oF bs k with
 | false =>
  rw [hg] at hh
  refine mH (m:=kT) (q:=⟨l0,H⟩) rfl (nQ ?_)
  rw [e0]
  exists a1,a2,me,hh
 | true =>
  rw [hg] at hh
  have hk:0<=k/\k<bs.length:=Classical.byContradiction λh=>by
   have:oF bs k=false:=if_neg h
   rw [this] at hg;cases hg
  haveI hs:∀l,cY (.ref t) (.int k) (.bool false) ⟨l,H⟩= .ok () ⟨l,H.set t (.list ((bs.set k.toNat false).map V.bool))⟩:=λl=>mY hS.ls hk.1 (by exact ge 0xf4240a090f0910003e8a0012 hb hk.2) hk.2
  refine nJ (m:=kT) (q:=⟨l0,H.set t (.list ((bs.set k.toNat false).map V.bool))⟩) rfl ?_
  rw [e0]
  refine ak (q':=⟨l0,H⟩) ?_ ?_
  ·exists a1,a2,me,hh
  ·exists a1,a2,fg hS.ob (iS _ _ _),hs
theorem Iu:fJ [.inst "Shelf" i] H= .ok (.ref H.length) (H++[.list ((lG 0 bs).map V.int)]):=by
 obtain ⟨l0,e0,a1⟩:∃l0,a9 ["self"] [.inst "Shelf" i]=l0/\l0 "self" = some (.inst "Shelf" i):=⟨_,rfl,rfl⟩
 have hit:av (.ref t) H=some (bs.map V.bool):=bX hS.ls
 haveI hc:my ⟨l0,H⟩= .ok (.ref H.length) ⟨l0,H++[.list ((lG 0 bs).map V.int)]⟩:=by
  refine fo (it:=⟨gr 0 (bs.map V.bool),λH=>av (.ref t) H=some (bs.map V.bool)⟩) (H1:=H) ?_ (by rw [hH,aad];exact id (b9 0xf4240a000003e8a0011 hb)) ?_
  ·haveI en:∀l,oD [.ref t] ⟨l,H⟩= .ok ⟨gr 0 (bs.map V.bool),λH=>av (.ref t) H=some (bs.map V.bool)⟩ ⟨l,H⟩:=λl=>by unfold oD;dsimp only;rw [hit]
   exists a1,fg hS.ob (iS _ _ _),en
  ·rw [<- o8]
   refine fn hit Jk _ λx hx=> ?_
   obtain ⟨j,b,rfl⟩:=tP _ _ _ hx
   have h1:wS "slot" "one" (.tup [.int j,.bool b]) ⟨gn [] l0,H⟩= .ok () ⟨upd (upd (gn [] l0) "slot" (.int j)) "one" (.bool b),H⟩:=rfl
   cases b with
   | false=>exact fH (H2:=H) (H3:=H) h1 rfl rfl
   | true=>exact gq h1 rfl
 refine bg (m:=pU) (q:=⟨l0,_⟩) rfl ?_
 rw [e0]
 exact bq hc rfl
theorem Hk:bO [.inst "Shelf" i] H= .ok (.int (bs.count true)) (H++[.list (List.replicate (bs.count true) (V.bool true))]):=by
 obtain ⟨l0,e0,a1⟩:∃l0,a9 ["self"] [.inst "Shelf" i]=l0/\l0 "self" = some (.inst "Shelf" i):=⟨_,rfl,rfl⟩
 have hit:av (.ref t) H=some (bs.map V.bool):=bX hS.ls
 haveI hcl:bs.count true<=bs.length:=List.count_le_length
 haveI hc:oB ⟨l0,H⟩= .ok (.ref H.length) ⟨l0,H++[.list (List.replicate (bs.count true) (V.bool true))]⟩:=by
  refine fo (it:=⟨bs.map V.bool,λH=>av (.ref t) H=some (bs.map V.bool)⟩) (H1:=H) ?_ (by rw [aad];exact id (b9 0xf4240a000003e8a0011 hb)) ?_
  ·haveI en:∀l,cW (.ref t) ⟨l,H⟩= .ok ⟨bs.map V.bool,λH=>av (.ref t) H=some (bs.map V.bool)⟩ ⟨l,H⟩:=λl=>by rw [rd,hit]
   exists a1,fg hS.ob (iS _ _ _),en
  ·rw [<- qV]
   refine fn hit Jj _ λx hx=> ?_
   obtain ⟨b,_,rfl⟩:=aaf.mp hx
   have h1:aL "one" (.bool b) ⟨gn [] l0,H⟩= .ok () ⟨upd (gn [] l0) "one" (.bool b),H⟩:=rfl
   cases b with
   | true=>exact fH (H2:=H) (H3:=H) h1 rfl rfl
   | false=>exact gq h1 rfl
 haveI hl:dY [.ref H.length] ⟨l0,H++[.list (List.replicate (bs.count true) (V.bool true))]⟩= .ok (.int (bs.count true)) ⟨l0,H++[.list (List.replicate (bs.count true) (V.bool true))]⟩:=by
  rw [cE (xs:=List.replicate (bs.count true) (V.bool true)) (aN _ _) (by rw [List.length_replicate];exact id (cu 0xf4240a1101010003e8a0012 hb hcl)),List.length_replicate]
 refine bg (m:=rU) (q:=⟨l0,_⟩) rfl ?_
 rw [e0]
 exact bq (bq (bq hc rfl) hl) rfl
theorem FB:hY [.inst "Shelf" i] H= .ok (.ref H.length) (H++[.list ((cc 0 bs).map V.int)]):=by
 obtain ⟨l0,e0,a1⟩:∃l0,a9 ["self"] [.inst "Shelf" i]=l0/\l0 "self" = some (.inst "Shelf" i):=⟨_,rfl,rfl⟩
 have hit:av (.ref t) H=some (bs.map V.bool):=bX hS.ls
 haveI hc:mA ⟨l0,H⟩= .ok (.ref H.length) ⟨l0,H++[.list ((cc 0 bs).map V.int)]⟩:=by
  refine fo (it:=⟨gr 0 (bs.map V.bool),λH=>av (.ref t) H=some (bs.map V.bool)⟩) (H1:=H) ?_ (by rw [hH,aad];exact id (b9 0xf4240a000003e8a0011 hb)) ?_
  ·haveI en:∀l,oD [.ref t] ⟨l,H⟩= .ok ⟨gr 0 (bs.map V.bool),λH=>av (.ref t) H=some (bs.map V.bool)⟩ ⟨l,H⟩:=λl=>by unfold oD;dsimp only;rw [hit]
   exists a1,fg hS.ob (iS _ _ _),en
  ·rw [<- o9]
   refine fn hit Jl _ λx hx=> ?_
   obtain ⟨j,b,rfl⟩:=tP _ _ _ hx
   have h1:wS "slot" "one" (.tup [.int j,.bool b]) ⟨gn [] l0,H⟩= .ok () ⟨upd (upd (gn [] l0) "slot" (.int j)) "one" (.bool b),H⟩:=rfl
   cases b with
   | true=>exact fH (H2:=H) (H3:=H) h1 rfl rfl
   | false=>exact gq h1 rfl
 refine bg (m:=pV) (q:=⟨l0,_⟩) rfl ?_
 rw [e0]
 exact bq hc rfl
end
end
theorem wR (i j:Int) (q:S) (h:i.natAbs<2 ^ 64):ik (.int i) (.int j) q= .ok (.int (i*j)) q:=by
 unfold ik
 dsimp only
 rw [if_pos (IntMulOk.of_left (intBits_le_iff.mpr h))];rfl
theorem wu {g:Hp->Prop} {bd:V->Cm Unit} {tst:Cm Bool} {elt:Cm V} {lc:bp} (H0:Hp) (hg:∀H,H0<+:H->g H) (φ : V->Option V):∀(xs:List V) (H:Hp),H0<+:H ->
  (∀x∈xs,∀H,H0<+:H-> ∃H',bM bd tst elt lc x H= .ok (φ x) H'/\H<+:H')-> ∃H',fU g bd tst elt lc xs H= .ok (xs.filterMap φ) H'/\H<+:H'
 | [],H,_,_=>⟨H,rfl,aam _⟩
 | x::xs,H,h0,h=>by
  obtain ⟨H1,h1,p1⟩:=h x (.head _) H h0
  obtain ⟨H2,h2,p2⟩:=wu H0 hg φ xs H1 (h0.trans p1) λz hz=>h z (.tail _ hz)
  exact ⟨H2,by rw [yR h1 (hg _ (h0.trans p1)) h2,pJ],p1.trans p2⟩
structure bH where
 pg:Int
 sh:Nat
 t:Nat
 sz:Int
 bs:List Bool
structure Rm where
 pl:Nat
 d:Nat
 c:Nat
 m:Nat
 p:Int
 len:Int
 xs:List Int
 ss:List bH
 cs:List Int
noncomputable def bH.ent (s:bH):Int×V:=(s.pg,.inst "Shelf" s.sh)
noncomputable def dL (ss:List bH) (g:Int):Option bH:=ss.find? λs=>s.pg==g
noncomputable def roomF (pl d c:Nat):List (String×V):=[("plan",.inst "Plan" pl),("racks",.ref d),("cells",.ref c)]
theorem GD (pl d c:Nat) {x:String} (h:x ≠ "plan" /\ x ≠ "racks" /\ x ≠ "cells"):(roomF pl d c).lookup x=none:=by
 haveI h1:(x == "plan")=false:=by simpa using h.1
 haveI h2:(x == "racks")=false:=by simpa using h.2.1
 haveI h3:(x == "cells")=false:=by simpa using h.2.2
 unfold roomF
 rw [List.lookup_cons,h1];dsimp only;rw [List.lookup_cons,h2];dsimp only;rw [List.lookup_cons,h3];rfl
structure aI (H:Hp) (ri:Nat) (r:Rm):Prop where
 ob:H[ri]? = some (.flds (roomF r.pl r.d r.c))
 plan:H[r.pl]? = some (.flds (iN r.p r.len r.m))
 sizes:H[r.m]? = some (.list (r.xs.map V.int))
 racks:H[r.d]? = some (.dict (r.ss.map bH.ent))
 shelf:∀s∈r.ss,jf H s.sh s.t s.pg s.sz s.bs
 cells:H[r.c]? = some (.list (r.cs.map V.int))
structure Rm.Ok (r:Rm):Prop where
 p:1<=r.p/\r.p<=40
 len:1<=r.len/\r.len<=60
 sz:jO r.len r.xs
 ne:r.xs≠[]
 ndp:(r.ss.map (·.pg)).Nodup
 ndt:(r.ss.map (·.t)).Nodup
 pg:∀s∈r.ss,0<=s.pg/\s.pg<r.p
 in':∀s∈r.ss,s.sz∈r.xs
 slots:∀s∈r.ss,(s.bs.length:Int)=r.len.fdiv s.sz
 cs:(r.cs.length:Int)=r.p*r.len
 ct:r.c∉r.ss.map (·.t)
 mt:r.m∉r.ss.map (·.t)
 mc:r.m≠r.c
theorem jf.pre {H H':Hp} {i t:Nat} {p z:Int} {bs:List Bool} (h:jf H i t p z bs) (e:H<+:H'):jf H' i t p z bs:=⟨aA e h.ob,aA e h.ls⟩
theorem aI.pre {H H':Hp} {ri:Nat} {r:Rm} (h:aI H ri r) (e:H<+:H'):aI H' ri r :=
 ⟨aA e h.ob,aA e h.plan,aA e h.sizes,aA e h.racks,λs hs=>(h.shelf s hs).pre e,aA e h.cells⟩
theorem aI.isPlan {H:Hp} {ri:Nat} {r:Rm} (h:aI H ri r):AE H r.pl r.p r.len r.xs:=⟨⟨r.m,h.plan,h.sizes⟩⟩
theorem aS:∀ {ss:List bH} {g:Int} {s:bH},dL ss g=some s->s∈ss/\s.pg=g:=λ{ss g s} h =>
 ⟨aa3 h,by simpa using List.find?_some h⟩
theorem kH:∀ {ss:List bH},(ss.map (·.pg)).Nodup-> ∀ {s:bH},s∈ss->dL ss s.pg=some s
 | [],_,_,h=>by cases h
 | a::ss,hn,s,h=>by
  rw [aaq,abd] at hn
  unfold dL
  rcases aai.mp h with rfl | h
  ·rw [aaJ (by simp)]
  ·haveI hne:¬((a.pg==s.pg)=true):=λe=>hn.1 (aaf.mpr ⟨s,h,(by simpa using e:a.pg=s.pg).symm⟩)
   rw [aay (p:=λs':bH=>s'.pg==s.pg) hne]
   exact kH hn.2 h
theorem zj {ss:List bH} {g:Int}:dL ss g=none↔g∉ss.map (·.pg):=by
 unfold dL
 rw [List.find?_eq_none]
 constructor
 ·intro h hm
  obtain ⟨s,hs,e⟩:=aaf.mp hm
  exact h s hs (by simpa using e)
 ·intro h s hs e
  exact h (aaf.mpr ⟨s,hs,by simpa using e⟩)
theorem iA:∀(ss:List bH) (g:Int),(ss.map bH.ent).lookup g=(dL ss g).map λs=> .inst "Shelf" s.sh
 | [],_=>rfl
 | a::ss,g=>by
  rw [aaq]
  unfold bH.ent dL
  rw [List.lookup_cons]
  by_cases e:g=a.pg
  ·subst e;rw [aaJ (by simp)];simp
  ·haveI e1:(g==a.pg)=false:=by simpa using e
   haveI e2:¬((a.pg==g)=true):=by simpa using λx=>e x.symm
   rw [e1,aay (p:=λs':bH=>s'.pg==g) e2]
   exact iA ss g
theorem Ef (ss:List bH):(ss.map bH.ent).map (·.1)=ss.map (·.pg):=by rw [aaV];rfl
theorem zH:∀(n:Nat) (l:List Nat),l.Nodup->(∀x∈l,x<n)->l.length<=n
 | 0,l,_,h=>by
  cases l with
  | nil=>simp
  | cons x r=>exact absurd (h x (.head _)) (by exact b9 0x9050)
 | n+1,l,hn,h=>by
  haveI h1:=zH n (l.filter (· ≠ n)) (hn.filter _) λx hx=>by
   obtain ⟨hx1,hx2⟩:=aaz.mp hx
   exact Nat.lt_of_le_of_ne (Nat.le_of_lt_succ (h x hx1)) (of_decide_eq_true hx2)
  haveI h2:l.length<=(l.filter (· ≠ n)).length+1:=by
   clear h1 h
   induction l with
   | nil=>simp
   | cons a r ih =>
    rw [abd] at hn
    by_cases e:a=n
    ·subst e
     haveI:r.filter (· ≠ a)=r:=by
      apply List.filter_eq_self.mpr
      intro x hx
      haveI:x≠a:=λe=>hn.1 (e▸hx)
      simpa using this
     rw [aaG (by simp),this];simp
    ·rw [aaL (by simpa using e)]
     haveI:=ih hn.2
     rw [aas,aas];exact id (cu 0x19191cc190c0191c0011 this)
  exact id (lh 0x191c20190c20110012 h1 h2)
theorem Rm.Ok.few {r:Rm} (h:r.Ok):r.ss.length<=40:=by
 haveI h1:=zH r.p.toNat ((r.ss.map (·.pg)).map Int.toNat) (by
  refine aaP.mpr (h.ndp.imp_of_mem λ{a b} ha hb hab e=>hab ?_)
  obtain ⟨s,hs,rfl⟩:=aaf.mp ha
  obtain ⟨s',hs',rfl⟩:=aaf.mp hb
  rw [<- aah (h.pg s hs).1,<- aah (h.pg s' hs').1,e]) λx hx=>by
  obtain ⟨g,hg,rfl⟩:=aaf.mp hx
  obtain ⟨s,hs,rfl⟩:=aaf.mp hg
  have:=h.pg s hs
  exact id (fu [_,_] [_,_] 0x1011f18100fa110913 this.2 (aah this.1) (aaY _))
 have:=h.p
 simp at h1
 exact id (jF 0x28a0001fa11001000028a0813 this.2 h1 (aah (bY 0x98019811 this.1)))
theorem Rm.Ok.szpos {r:Rm} (h:r.Ok) {s:bH} (hs:s∈r.ss):1<=s.sz/\s.sz<=r.len:=⟨h.sz.low _ (h.in' s hs),h.sz.top _ (h.in' s hs)⟩
theorem IO {x:Int} (a:0<=x) (b:x<1000000):x.natAbs<2 ^ 64:=Int.ofNat_lt.mp (by rw [Int.natAbs_of_nonneg a];exact Int.lt_trans b ∅)
theorem EL {n:Nat}:((n:Int)=0)↔n=0:=Int.ofNat_inj
theorem Kc {z:Int} (h:0<=z/\z<=1000) : -1000000<z/\z<1000000:=⟨aaX ∅ h.1,Int.lt_of_le_of_lt h.2 ∅⟩
theorem z0 {z:Int} (h:1<=z):(0:Int)<=0/\0<z:=⟨Int.le_refl _,aaX ∅ h⟩
theorem tn {a b:Int} (ha:0<=a) (hb:0<=b) (h:a.toNat=b.toNat):a=b:=by rw [<- aah ha,<- aah hb,h]
theorem J6 {α:Type} {l:List α} {i:Nat} {x:α} (h:l[i]? = some x):(l.length:Int)≠0:=λe=>by rw [List.length_eq_zero_iff.mp (Int.ofNat_inj.mp e)] at h;cases h
theorem Em {a b:Nat}:((a:Int)>(b:Int))↔b<a:=Int.ofNat_lt
theorem xv {a g x:Int} (e:a=g) (h:¬x=g):¬((a==x)=true):=λq=>h ((eq_of_beq q).symm.trans e)
theorem tQ {a b:Int} (u1:0<=a.fdiv b) (u4:a<(a.fdiv b+1)*b) (h:b<=a):1<=a.fdiv b:=by
 rcases Int.lt_or_le (a.fdiv b) 1 with q | q
 ·rw [show a.fdiv b=0 by exact aaU (bY 0x908190911 q) (u1),Int.zero_add,Int.one_mul] at u4;exact absurd h (Int.not_le.mpr u4)
 ·exact q
theorem c7 {a b:Int} (ha:0<=a) (hb:1<=b):0<=a.fdiv b/\a.fdiv b<=a/\a.fdiv b*b<=a/\a<(a.fdiv b+1)*b:=by
 rw [Int.fdiv_eq_ediv_of_nonneg a (by exact bY 0x98019811 hb)]
 have h1:=Int.emod_add_mul_ediv a b
 have h2:=Int.emod_nonneg a (by exact λx9=>bY 0x9096090a1019812 hb x9:b≠0)
 haveI h3:=Int.emod_lt_of_pos a (by exact bY 0x99019811 hb:0<b)
 have h4:0<=a/b:=Int.ediv_nonneg ha (by exact bY 0x98019811 hb)
 haveI h5:a/b*1<=a/b*b:=Int.mul_le_mul_of_nonneg_left hb h4
 rw [Int.mul_comm] at h1
 refine ⟨h4,aa8 (by rw [Int.mul_one] at h5;exact h5) (by exact tZ 0x21800981210ca12 h1 h2),by exact tZ 0x21800981210ca12 h1 h2,?_⟩
 rw [Int.add_mul];exact id (AV 0x301d1c293091210cb12 h1 h3)
theorem Rm.Ok.bslen {r:Rm} (h:r.Ok) {s:bH} (hs:s∈r.ss):s.bs.length<=1000:=by
 haveI h1:=h.slots s hs
 haveI h2:=h.szpos hs
 have h3:=h.len
 haveI:=(c7 (a:=r.len) (b:=s.sz) (by exact bY 0x98019811 h3.1) h2.1).2.1
 exact id (Dg 0x3e8a00108100003ca18100fa13 h1 h3.2 this)
section
variable {H:Hp} {ri:Nat} {r:Rm} (hR:aI H ri r) (hO:r.Ok)
include hR
theorem bw (l:bp):aE "racks" (.inst "Room" ri) ⟨l,H⟩= .ok (.ref r.d) ⟨l,H⟩:=kg hR.ob rfl
theorem jp (l:bp):aE "plan" (.inst "Room" ri) ⟨l,H⟩= .ok (.inst "Plan" r.pl) ⟨l,H⟩:=kg hR.ob rfl
theorem qh (l:bp):aE "cells" (.inst "Room" ri) ⟨l,H⟩= .ok (.ref r.c) ⟨l,H⟩:=kg hR.ob rfl
theorem Bf (l:bp):aE "length" (.inst "Plan" r.pl) ⟨l,H⟩= .ok (.int r.len) ⟨l,H⟩:=kg hR.plan rfl
theorem E9 (l:bp):aE "pages" (.inst "Plan" r.pl) ⟨l,H⟩= .ok (.int r.p) ⟨l,H⟩:=kg hR.plan rfl
theorem bA {f:String} (h:f ≠ "plan" /\ f ≠ "racks" /\ f ≠ "cells") (l:bp):d5 "Room" f (.inst "Room" ri) ⟨l,H⟩= .ok () ⟨l,H⟩:=by simp [E7,hR.ob,GD _ _ _ h]
theorem dh {g:Int} {s:bH} (h:dL r.ss g=some s) (l:bp):aJ (.ref r.d) (.int g) ⟨l,H⟩= .ok (.inst "Shelf" s.sh) ⟨l,H⟩:=by
 unfold aJ;dsimp only;rw [hR.racks];dsimp only;rw [iA,h];rfl
theorem E8 (g:Int) (l:bp):tY (.int g) (.ref r.d) ⟨l,H⟩= .ok (dL r.ss g).isSome ⟨l,H⟩:=by
 unfold tY;dsimp only;rw [hR.racks];dsimp only;rw [iA];cases dL r.ss g<;>rfl
theorem sd {s:bH} (hs:s∈r.ss) (l:bp):aE "size" (.inst "Shelf" s.sh) ⟨l,H⟩= .ok (.int s.sz) ⟨l,H⟩/\aE "page" (.inst "Shelf" s.sh) ⟨l,H⟩= .ok (.int s.pg) ⟨l,H⟩:=by
 have:=(hR.shelf s hs).ob
 exact ⟨kg this rfl,kg this rfl⟩
include hO
theorem nP (l:bp):cj [.ref r.d] ⟨l,H⟩= .ok (.ref H.length) ⟨l,H++[.list ((cD (r.ss.map (·.pg))).map V.int)]⟩:=by
 haveI h:=hO.few
 haveI:(r.ss.map bH.ent).length<64:=by simp;exact id (b9 0x40a01000028a0011 h)
 unfold cj;dsimp only;rw [hR.racks];dsimp only;rw [if_pos this,Ef]
noncomputable def iM (p:Int) (ss:List bH):List Int:=((List.range p.toNat).map Int.ofNat).filter λg=>(dL ss g).isNone
noncomputable def ofSz (ss:List bH) (z:Int):List Int:=(cD (ss.map (·.pg))).filter λg=>match dL ss g with | some s=>decide (s.sz=z) | none=>false
noncomputable def mB (ss:List bH):List Int:=(cD (ss.map (·.pg))).filter λg=>match dL ss g with | some s=>decide (s.bs.count true=0) | none=>false
omit hR hO in
theorem nO:∀(n:Nat) (a:Nat),bN a n=((List.range' a n).map Int.ofNat).map V.int
 | 0,a=>rfl
 | n+1,a=>by
  rw [zR,List.range'_succ,aaq,aaq,show ((a:Int)+1)=((a+1:Nat):Int) by push_cast;rfl,nO n (a+1)]
  rfl
omit hR hO in
theorem iF (f:Int->Bool) (φ : V->Option V) (h:∀g,φ (.int g)=if f g then some (.int g) else none):∀l:List Int,(l.map V.int).filterMap φ = (l.filter f).map V.int
 | []=>rfl
 | g::l=>by
  rw [aaq]
  cases hf:f g with
  | true=>rw [List.filterMap_cons_some (by rw [h,hf];rfl),aaL hf,iF f φ h l];rfl
  | false=>rw [List.filterMap_cons_none (by rw [h,hf];rfl),aaG (by rw [hf];simp),iF f φ h l]
theorem IA:∃H',mD [.inst "Room" ri] H= .ok (.ref H.length) H'/\H'=H++[.list ((iM r.p r.ss).map V.int)]:=by
 obtain ⟨l0,e0,a1⟩:∃l0,a9 ["self"] [.inst "Room" ri]=l0/\l0 "self" = some (.inst "Room" ri):=⟨_,rfl,rfl⟩
 refine ⟨_,?_,rfl⟩
 have hp:=hO.p
 haveI hr:∀q,fi [.int r.p] q= .ok ⟨bN 0 r.p.toNat,λ_=>True⟩ q:=λq=>j3 _ _ ⟨by exact bY 0xf4240a1b9019811 hp.1,by exact bY 0xf4240a09000028a0811 hp.2⟩
 haveI hc:oA ⟨l0,H⟩= .ok (.ref H.length) ⟨l0,H++[.list ((iM r.p r.ss).map V.int)]⟩:=by
  refine fo (it:=⟨bN 0 r.p.toNat,λ_=>True⟩) (H1:=H) ?_ (by rw [gm];exact id (ge 0xf4240a0000fa1000028a0812 hp.2 (aah (bY 0x98019811 hp.1)))) ?_
  ·exists a1,jp hR,E9 hR,hr
  ·haveI e1:bN 0 r.p.toNat=((List.range r.p.toNat).map Int.ofNat).map V.int:=by rw [List.range_eq_range'];exact nO _ 0
   let φ : V->Option V:=λv=>match v with | .int g=>if (dL r.ss g).isNone then some (.int g) else none | _=>none
   haveI e2:(iM r.p r.ss).map V.int=(((List.range r.p.toNat).map Int.ofNat).map V.int).filterMap φ := (iF (λg=>(dL r.ss g).isNone) φ (λ_=>rfl) _).symm
   rw [e2]
   show fU _ _ _ _ _ (bN 0 r.p.toNat) H=_
   rw [e1]
   refine fn trivial φ _ λx hx=> ?_
   obtain ⟨g,_,rfl⟩:=aaf.mp hx
   have h1:aL "page" (.int g) ⟨gn ["self"] l0,H⟩= .ok () ⟨upd (gn ["self"] l0) "page" (.int g),H⟩:=rfl
   have hs:upd (gn ["self"] l0) "page" (.int g) "self" = some (.inst "Room" ri):=gh ∅ ∅ a1
   have eφ : φ (.int g)=if (dL r.ss g).isNone then some (.int g) else none:=rfl
   rw [eφ]
   cases hf:dL r.ss g with
   | none =>
    haveI hi:=E8 hR g (upd (gn ["self"] l0) "page" (.int g))
    rw [hf] at hi
    refine fH (H2:=H) (H3:=H) h1 ?_ rfl
    exists hs,bw hR,hi
   | some s =>
    haveI hi:=E8 hR g (upd (gn ["self"] l0) "page" (.int g))
    rw [hf] at hi
    refine gq (H2:=H) h1 ?_
    exists hs,bw hR,hi
 refine bg (m:=rQ) (q:=⟨l0,_⟩) rfl ?_
 rw [e0]
 exists hc
end
theorem fL (f:Int->Bool):∀l:List Int,(l.filterMap λg=>if f g then some (V.int g) else none)=(l.filter f).map V.int
 | []=>rfl
 | g::l=>by
  cases hf:f g with
  | true=>rw [List.filterMap_cons_some (by rw [hf];rfl),aaL hf,fL f l];rfl
  | false=>rw [List.filterMap_cons_none (by rw [hf];rfl),aaG (by rw [hf];simp),fL f l]
theorem fq {caps:List String} {x:String} {tst:Cm Bool} {elt:Cm V} {l:bp} {mi:Cm It} {H H1:Hp} {n:Nat} {ks:List Int}
  (hmi:mi ⟨l,H⟩= .ok ⟨ks.map V.int,λH=>av (.ref n) H=some (ks.map V.int)⟩ ⟨l,H1⟩) (hn:H1[n]? = some (.list (ks.map V.int))) (hlen:ks.length<=1000000) (φ : Int->Option V)
  (hstep:∀g∈ks,∀H',H1<+:H'-> ∃H'',bM (aL x) tst elt (gn caps l) (.int g) H'= .ok (φ g) H''/\H'<+:H'') :
  ∃H',cC caps mi (aL x) tst elt ⟨l,H⟩= .ok (.ref H'.length) ⟨l,H'++[.list (ks.filterMap φ)]⟩/\H1<+:H':=by
 let ψ : V->Option V:=λv=>match v with | .int g => φ g | _=>none
 obtain ⟨H',h1,h2⟩:=wu (g:=λH=>av (.ref n) H=some (ks.map V.int)) (bd:=aL x) (tst:=tst) (elt:=elt) (lc:=gn caps l) H1 (λH' hp=>bX (aA hp hn)) ψ (ks.map V.int) H1 (aam _) λv hv H' hp=>by
  obtain ⟨g,hg,rfl⟩:=aaf.mp hv
  exact hstep g hg H' hp
 haveI e:(ks.map V.int).filterMap ψ = ks.filterMap φ := by rw [List.filterMap_map];rfl
 rw [e] at h1
 exact ⟨H',fo hmi (by simpa using hlen) h1,h2⟩
theorem dJ {n:Nat} {ks:List Int} {l:bp} {H:Hp} (hn:H[n]? = some (.list (ks.map V.int))):cW (.ref n) ⟨l,H⟩= .ok ⟨ks.map V.int,λH=>av (.ref n) H=some (ks.map V.int)⟩ ⟨l,H⟩:=by
 rw [rd,bX hn]
theorem cZ {tst:Cm Bool} {elt:Cm V} {x:String} {lc:bp} {v y:V} {H H2 H3:Hp} (h2:tst ⟨upd lc x v,H⟩= .ok true ⟨upd lc x v,H2⟩) (h3:elt ⟨upd lc x v,H2⟩= .ok y ⟨upd lc x v,H3⟩) :
  bM (aL x) tst elt lc v H= .ok (some y) H3:=fH (u:=()) rfl h2 h3
theorem qr {tst:Cm Bool} {elt:Cm V} {x:String} {lc:bp} {v:V} {H H2:Hp} (h2:tst ⟨upd lc x v,H⟩= .ok false ⟨upd lc x v,H2⟩):bM (aL x) tst elt lc v H= .ok none H2:=gq (u:=()) rfl h2
theorem Dr {g:Int} {l:List Int}:g∈cD l↔g∈l:=(fk l).mem_iff
theorem qq (l:List Int):(cD l).length=l.length:=(fk l).length_eq
theorem BX {ss:List bH} (hn:(ss.map (·.pg)).Nodup) {g:Int} (h:g∈cD (ss.map (·.pg))):∃s,A3 (dL ss g=some s) (s∈ss) (s.pg=g):=by
 obtain ⟨s,hs,rfl⟩:=aaf.mp (Dr.mp h)
 exact ⟨s,kH hn hs,hs,rfl⟩
section
variable {H:Hp} {ri:Nat} {r:Rm} (hR:aI H ri r) (hO:r.Ok)
include hR hO
theorem vx (z:Int):∃n H',A4 (dU [.inst "Room" ri,.int z] H= .ok (.ref n) H') (H<+:H') (H'[n]? = some (.list ((ofSz r.ss z).map V.int))) (H.length<=n):=by
 obtain ⟨l0,e0,a1,a2⟩:∃l0,a9 ["self", "size"] [.inst "Room" ri,.int z]=l0/\l0 "self" = some (.inst "Room" ri)/\l0 "size" = some (.int z):=⟨_,rfl,rfl,rfl⟩
 haveI hf:=hO.few
 obtain ⟨H',h1,h2⟩:=fq (caps:=["size", "self"]) (x := "page") (l:=l0) (H:=H) (H1:=H++[.list ((cD (r.ss.map (·.pg))).map V.int)]) (n:=H.length) (ks:=cD (r.ss.map (·.pg)))
  (mi:=(((((af "self").b λv2=>aE "racks" v2).b λv3=>(Cm.p ([]:List V)).b λvs4=>Cm.p (v3::vs4)).b λvs1=>cj vs1).b λv5=>cW v5))
  (tst:=(((((af "self").b λv6=>aE "racks" v6).b λv7=>(af "page").b λv8=>aJ v7 v8).b λv9=>aE "size" v9).b λv10=>(af "size").b λv11=>(dA .Eq v10 v11).b λx12=>Cm.p x12))
  (elt:=af "page")
  (by exists a1,bw hR,nP hR hO;exact dJ (by simp)) (by simp) (by rw [qq];simp;exact aao hf ∅)
  (λg=>if (match dL r.ss g with | some s=>decide (s.sz=z) | none=>false) then some (V.int g) else none) λg hg Hx hp=>by
   obtain ⟨s,hs,hm,_⟩:=BX hO.ndp hg
   have hRx:=hR.pre ((aav _ _).trans hp)
   haveI b1:upd (gn ["size", "self"] l0) "page" (.int g) "self" = some (.inst "Room" ri):=gh ∅ ∅ a1
   haveI b2:upd (gn ["size", "self"] l0) "page" (.int g) "size" = some (.int z):=gh ∅ ∅ a2
   refine ⟨Hx,?_,aam _⟩
   rw [hs]
   show bM _ _ _ _ _ _= .ok (if decide (s.sz=z)=true then some (V.int g) else none) Hx
   have ht:∀b,decide (s.sz=z)=b->((((((af "self").b λv6=>aE "racks" v6).b λv7=>(af "page").b λv8=>aJ v7 v8).b λv9=>aE "size" v9).b λv10=>(af "size").b λv11=>(dA .Eq v10 v11).b λx12=>Cm.p x12)) ⟨upd (gn ["size", "self"] l0) "page" (.int g),Hx⟩= .ok b ⟨upd (gn ["size", "self"] l0) "page" (.int g),Hx⟩:=λb hb=>by
    exists b1,b2,bw hRx,dh hRx hs,(sd hRx hm _).1,hb
   cases hb:decide (s.sz=z) with
   | true=>exact cZ (ht true hb) rfl
   | false=>exact qr (ht false hb)
 refine ⟨H'.length,H'++[.list ((ofSz r.ss z).map V.int)],?_,((aav _ _).trans h2).trans (aav _ _),by simp,((aav _ _).trans h2).length_le⟩
 rw [fL] at h1
 refine bg (m:=iL) (q:=⟨l0,_⟩) rfl ?_
 rw [e0]
 simp only [iL,j5,rZ,jR,h1,Jn]
 rfl
theorem Dw (z:Int):∃n H',A3 (dU [.inst "Room" ri,.int z] H= .ok (.ref n) H') (H<+:H') (H'[n]? = some (.list ((ofSz r.ss z).map V.int))) :=
 let ⟨n,H',h1,h2,h3,_⟩:=vx hR hO z;⟨n,H',h1,h2,h3⟩
theorem yE:∃n H',A3 (cQ [.inst "Room" ri] H= .ok (.ref n) H') (H<+:H') (H'[n]? = some (.list ((mB r.ss).map V.int))):=by
 obtain ⟨l0,e0,a1⟩:∃l0,a9 ["self"] [.inst "Room" ri]=l0/\l0 "self" = some (.inst "Room" ri):=⟨_,rfl,rfl⟩
 haveI hf:=hO.few
 obtain ⟨H',h1,h2⟩:=fq (caps:=["self"]) (x := "page") (l:=l0) (H:=H) (H1:=H++[.list ((cD (r.ss.map (·.pg))).map V.int)]) (n:=H.length) (ks:=cD (r.ss.map (·.pg)))
  (mi:=(((((af "self").b λv2=>aE "racks" v2).b λv3=>(Cm.p ([]:List V)).b λvs4=>Cm.p (v3::vs4)).b λvs1=>cj vs1).b λv5=>cW v5))
  (tst:=(((((af "self").b λv7=>aE "racks" v7).b λv8=>(af "page").b λv9=>aJ v8 v9).b λv10=>(d5 "Shelf" "out" v10).b λ_=>(Cm.p ([]:List V)).b λvs6=>bD (bO) (v10::vs6)).b λv11=>(Cm.p (V.int 0)).b λv12=>(dA .Eq v11 v12).b λx13=>Cm.p x13))
  (elt:=af "page")
  (by exists a1,bw hR,nP hR hO;exact dJ (by simp)) (by simp) (by rw [qq];simp;exact aao hf ∅)
  (λg=>if (match dL r.ss g with | some s=>decide (s.bs.count true=0) | none=>false) then some (V.int g) else none) λg hg Hx hp=>by
   obtain ⟨s,hs,hm,_⟩:=BX hO.ndp hg
   have hRx:=hR.pre ((aav _ _).trans hp)
   have hSx:=hRx.shelf s hm
   haveI ho:=Hk hSx (hO.bslen hm)
   haveI b1:upd (gn ["self"] l0) "page" (.int g) "self" = some (.inst "Room" ri):=gh ∅ ∅ a1
   refine ⟨Hx++[.list (List.replicate (s.bs.count true) (V.bool true))],?_,aav _ _⟩
   rw [hs]
   show bM _ _ _ _ _ _= .ok (if decide (s.bs.count true=0)=true then some (V.int g) else none) _
   have ht:∀b,decide (s.bs.count true=0)=b->((((((af "self").b λv7=>aE "racks" v7).b λv8=>(af "page").b λv9=>aJ v8 v9).b λv10=>(d5 "Shelf" "out" v10).b λ_=>(Cm.p ([]:List V)).b λvs6=>bD (bO) (v10::vs6)).b λv11=>(Cm.p (V.int 0)).b λv12=>(dA .Eq v11 v12).b λx13=>Cm.p x13)) ⟨upd (gn ["self"] l0) "page" (.int g),Hx⟩= .ok b ⟨upd (gn ["self"] l0) "page" (.int g),Hx++[.list (List.replicate (s.bs.count true) (V.bool true))]⟩:=λb hb=>by
    haveI e:decide (((s.bs.count true:Nat):Int)=0)=b:=by rw [<- hb];exact decide_eq_decide.mpr EL
    exists b1,bw hRx,dh hRx hs,eY hSx.ob (Io _ _ _),ho,e
   cases hb:decide (s.bs.count true=0) with
   | true=>exact cZ (ht true hb) rfl
   | false=>exact qr (ht false hb)
 refine ⟨H'.length,H'++[.list ((mB r.ss).map V.int)],?_,((aav _ _).trans h2).trans (aav _ _),by simp⟩
 rw [fL] at h1
 refine bg (m:=iK) (q:=⟨l0,_⟩) rfl ?_
 rw [e0]
 exact bq h1 rfl
omit hO in
theorem tD {s:bH} (hS:jf H s.sh s.t s.pg s.sz s.bs) (k:Int) (hp:0<=s.pg/\s.pg<1000) (hk:0<=k/\k<1000):eu [.inst "Room" ri,.inst "Shelf" s.sh,.int k] H= .ok (.int (s.pg*r.len+k*s.sz)) H:=by
 haveI h1:∀l,aE "page" (.inst "Shelf" s.sh) ⟨l,H⟩= .ok (.int s.pg) ⟨l,H⟩:=λl=>fg hS.ob (GG _ _ _)
 haveI h2:∀l,aE "size" (.inst "Shelf" s.sh) ⟨l,H⟩= .ok (.int s.sz) ⟨l,H⟩:=λl=>fg hS.ob (GH _ _ _)
 haveI m1:∀q,ik (.int s.pg) (.int r.len) q= .ok (.int (s.pg*r.len)) q:=λq=>wR _ _ q (IO (by exact hp.1) (by exact bY 0xf4240a090003e8a0911 hp.2))
 haveI m2:∀q,ik (.int k) (.int s.sz) q= .ok (.int (k*s.sz)) q:=λq=>wR _ _ q (IO (by exact hk.1) (by exact bY 0xf4240a090003e8a0911 hk.2))
 obtain ⟨l0,e0,a1,a2,a3⟩:∃l0,a9 ["self", "shelf", "slot"] [.inst "Room" ri,.inst "Shelf" s.sh,.int k]=l0/\l0 "self" = some (.inst "Room" ri)/\l0 "shelf" = some (.inst "Shelf" s.sh)/\l0 "slot" = some (.int k):=⟨_,rfl,rfl,rfl,rfl⟩
 refine bg (m:=pQ) (q:=⟨l0,H⟩) rfl ?_
 rw [e0]
 exists a1,a2,a3,h1,h2,jp hR,Bf hR,m1,m2
end
structure cA (F:List Nat) (H H':Hp):Prop where
 len:H.length<=H'.length
 same:∀i,i<H.length->i∉F->H'[i]? = H[i]?
theorem cA.refl (F:List Nat) (H:Hp):cA F H H:=⟨aaK _,λ_ _ _=>rfl⟩
theorem cA.pre {F:List Nat} {H H':Hp} (h:H<+:H'):cA F H H':=⟨h.length_le,λi hi _=>by
 obtain ⟨T,rfl⟩:=h
 rw [aaw hi]⟩
theorem cA.trans {F:List Nat} {H H' H'':Hp} (a:cA F H H') (b:cA F H' H''):cA F H H'' :=
 ⟨aao a.len b.len,λi hi hn=>(b.same i (aa9 hi a.len) hn).trans (a.same i hi hn)⟩
theorem cA.mono {F F':List Nat} {H H':Hp} (a:cA F H H') (h:∀i∈F,i<H.length->i∈F'):cA F' H H':=⟨a.len,λi hi hn=>a.same i hi λhm=>hn (h i hm hi)⟩
theorem cA.set {F:List Nat} {H:Hp} {i:Nat} {o:O} (h:i∈F):cA F H (H.set i o):=⟨by simp,λj hj hn=>aaO (λe:i=j=>hn (e▸h))⟩
theorem cA.get {F:List Nat} {H H':Hp} (a:cA F H H') {i:Nat} {o:O} (h:H[i]? = some o) (hn:i∉F):H'[i]? = some o:=by
 rw [a.same i (aaa.mp h).1 hn];exact h
noncomputable def Rm.dep (ri:Nat) (r:Rm):List Nat:=ri::r.pl::r.m::r.d::r.c::(r.ss.map (·.sh)++r.ss.map (·.t))
theorem aI.chg {F:List Nat} {H H':Hp} {ri:Nat} {r:Rm} (h:aI H ri r) (a:cA F H H') (hd:∀i∈r.dep ri,i∉F):aI H' ri r where
 ob:=a.get h.ob (hd _ (by simp [Rm.dep]))
 plan:=a.get h.plan (hd _ (by simp [Rm.dep]))
 sizes:=a.get h.sizes (hd _ (by simp [Rm.dep]))
 racks:=a.get h.racks (hd _ (by simp [Rm.dep]))
 shelf:=λs hs=>⟨a.get (h.shelf s hs).ob (hd _ (by simp [Rm.dep];exact .inr (.inr (.inr (.inr (.inr (.inl ⟨s,hs,rfl⟩))))))),a.get (h.shelf s hs).ls (hd _ (by simp [Rm.dep];exact .inr (.inr (.inr (.inr (.inr (.inr ⟨s,hs,rfl⟩)))))))⟩
 cells:=a.get h.cells (hd _ (by simp [Rm.dep]))
noncomputable def setBs (ss:List bH) (g:Int) (bs:List Bool):List bH:=ss.map λs=>if s.pg=g then { s with bs:=bs } else s
theorem Dq (ss:List bH) (g:Int) (bs:List Bool):(setBs ss g bs).map bH.ent=ss.map bH.ent:=by
 unfold setBs
 rw [aaV]
 refine aaZ λs _=> ?_
 show bH.ent (if s.pg=g then { s with bs:=bs } else s)=_
 split<;>rfl
theorem Fd (ss:List bH) (g:Int) (bs:List Bool):(setBs ss g bs).map (·.pg)=ss.map (·.pg):=by
 unfold setBs;rw [aaV];refine aaZ λs _=> ?_
 show bH.pg (if s.pg=g then { s with bs:=bs } else s)=_
 split<;>rfl
theorem nS (ss:List bH) (g:Int) (bs:List Bool):(setBs ss g bs).map (·.t)=ss.map (·.t):=by
 unfold setBs;rw [aaV];refine aaZ λs _=> ?_
 show bH.t (if s.pg=g then { s with bs:=bs } else s)=_
 split<;>rfl
theorem nR {ss:List bH} {g:Int} {bs:List Bool} {s:bH} (h:s∈setBs ss g bs):∃s0∈ss,(s0.pg=g/\s={ s0 with bs:=bs })\/(s0.pg≠g/\s=s0):=by
 obtain ⟨s0,h0,rfl⟩:=aaf.mp h
 refine ⟨s0,h0,?_⟩
 by_cases e:s0.pg=g
 ·exact .inl ⟨e,by rw [if_pos e]⟩
 ·exact .inr ⟨e,by rw [if_neg e]⟩
theorem pZ {α:Type} {f:α->Nat}:∀ {l:List α},(l.map f).Nodup-> ∀ {a b:α},a∈l->b∈l->f a=f b->a=b
 | [],_,_,_,h,_,_=>by cases h
 | x::l,hn,a,b,ha,hb,e=>by
  rw [aaq,abd] at hn
  rcases aai.mp ha with h1 | h1<;>rcases aai.mp hb with h2 | h2
  ·rw [h1,h2]
  ·exact absurd (aaf.mpr ⟨b,h2,by rw [<- e,h1]⟩) hn.1
  ·exact absurd (aaf.mpr ⟨a,h1,by rw [e,h2]⟩) hn.1
  ·exact pZ hn.2 h1 h2 e
section
variable {H:Hp} {ri:Nat} {r:Rm} (hR:aI H ri r) (hO:r.Ok)
include hR hO
theorem aI.setBs {s:bH} (hs:s∈r.ss) (bs:List Bool):aI (H.set s.t (.list (bs.map V.bool))) ri { r with ss:=Mine.Lake.setBs r.ss s.pg bs }:=by
 have hls:=(hR.shelf s hs).ls
 have ne:∀ {i:Nat} {o:O},H[i]? = some o->(∀xs,o≠ .list xs)->s.t≠i:=λ{i o} h hn e=>by rw [<- e,hls] at h;cases h;exact hn _ rfl
 have get:∀ {i:Nat} {o:O},H[i]? = some o->s.t≠i->(H.set s.t (.list (bs.map V.bool)))[i]? = some o:=λh hn=>by rw [aaO hn];exact h
 have ht:s.t∈r.ss.map (·.t):=aaf.mpr ⟨s,hs,rfl⟩
 refine ⟨get hR.ob (ne hR.ob (by simp)),get hR.plan (ne hR.plan (by simp)),get hR.sizes λe=>hO.mt (e▸ht),?_,λs' hs'=> ?_,get hR.cells λe=>hO.ct (e▸ht)⟩
 ·show (H.set s.t _)[r.d]? = some (.dict ((Mine.Lake.setBs r.ss s.pg bs).map bH.ent))
  rw [Dq];exact get hR.racks (ne hR.racks (by simp))
 ·obtain ⟨s0,h0,⟨e,rfl⟩ | ⟨e,rfl⟩⟩:=nR hs'
  ·haveI:s0=s:=Option.some.inj ((kH hO.ndp h0).symm.trans (by rw [e];exact kH hO.ndp hs))
   subst this
   exact ⟨get (hR.shelf _ hs).ob (ne (hR.shelf _ hs).ob (by simp)),by
    show (H.set s0.t _)[s0.t]? = _
    rw [aaA (aaa.mp hls).1]⟩
  ·haveI hne:s.t≠s'.t:=λq=>e (by rw [pZ hO.ndt hs h0 q])
   exact ⟨get (hR.shelf _ h0).ob (ne (hR.shelf _ h0).ob (by simp)),get (hR.shelf _ h0).ls hne⟩
theorem Rm.Ok.setBs {s:bH} (hs:s∈r.ss) {bs:List Bool} (hl:bs.length=s.bs.length):Rm.Ok { r with ss:=Mine.Lake.setBs r.ss s.pg bs } where
 p:=hO.p
 len:=hO.len
 sz:=hO.sz
 ne:=hO.ne
 ndp:=by show ((Mine.Lake.setBs r.ss s.pg bs).map (·.pg)).Nodup;rw [Fd];exact hO.ndp
 ndt:=by show ((Mine.Lake.setBs r.ss s.pg bs).map (·.t)).Nodup;rw [nS];exact hO.ndt
 pg:=λs' hs'=>by
  obtain ⟨s0,h0,⟨e,rfl⟩ | ⟨e,rfl⟩⟩:=nR hs'
  ·exact hO.pg s0 h0
  ·exact hO.pg _ h0
 in':=λs' hs'=>by
  obtain ⟨s0,h0,⟨e,rfl⟩ | ⟨e,rfl⟩⟩:=nR hs'
  ·exact hO.in' s0 h0
  ·exact hO.in' _ h0
 slots:=λs' hs'=>by
  obtain ⟨s0,h0,⟨e,rfl⟩ | ⟨e,rfl⟩⟩:=nR hs'
  ·haveI:s0=s:=Option.some.inj ((kH hO.ndp h0).symm.trans (by rw [e];exact kH hO.ndp hs))
   subst this
   show (bs.length:Int)=_
   rw [hl];exact hO.slots _ h0
  ·exact hO.slots _ h0
 cs:=hO.cs
 ct:=by show r.c∉(Mine.Lake.setBs r.ss s.pg bs).map (·.t);rw [nS];exact hO.ct
 mt:=by show r.m∉(Mine.Lake.setBs r.ss s.pg bs).map (·.t);rw [nS];exact hO.mt
 mc:=hO.mc
theorem aI.setCs (cs:List Int):aI (H.set r.c (.list (cs.map V.int))) ri { r with cs:=cs }:=by
 have hls:=hR.cells
 have ne:∀ {i:Nat} {o:O},H[i]? = some o->(∀xs,o≠ .list xs)->r.c≠i:=λ{i o} h hn e=>by rw [<- e,hls] at h;cases h;exact hn _ rfl
 have get:∀ {i:Nat} {o:O},H[i]? = some o->r.c≠i->(H.set r.c (.list (cs.map V.int)))[i]? = some o:=λh hn=>by rw [aaO hn];exact h
 exact ⟨get hR.ob (ne hR.ob (by simp)),get hR.plan (ne hR.plan (by simp)),get hR.sizes hO.mc.symm,get hR.racks (ne hR.racks (by simp)),
  λs hs=>⟨get (hR.shelf s hs).ob (ne (hR.shelf s hs).ob (by simp)),get (hR.shelf s hs).ls λe=>hO.ct (e▸aaf.mpr ⟨s,hs,rfl⟩)⟩,by
   show (H.set r.c _)[r.c]? = _
   rw [aaA (aaa.mp hls).1]⟩
theorem Rm.Ok.setCs {cs:List Int} (hl:cs.length=r.cs.length):Rm.Ok { r with cs:=cs } :=
 ⟨hO.p,hO.len,hO.sz,hO.ne,hO.ndp,hO.ndt,hO.pg,hO.in',hO.slots,by show (cs.length:Int)=_;rw [hl];exact hO.cs,hO.ct,hO.mt,hO.mc⟩
noncomputable def gX (ss:List bH) (g:Int):List bH:=ss.filter λs=>s.pg≠g
omit hR hO in
theorem qP:∀(ss:List bH) (g:Int),(gX ss g).map bH.ent=xD g (ss.map bH.ent)
 | [],_=>rfl
 | s::ss,g=>by
  unfold gX xD
  rw [aaq]
  by_cases e:s.pg=g
  ·rw [aaG (by simp [e]),aaG (by simp [bH.ent,e])];exact qP ss g
  ·rw [aaL (by simp [e]),aaL (by simp [bH.ent,e]),aaq];congr 1;exact qP ss g
theorem aI.del (g:Int):aI (H.set r.d (.dict (xD g (r.ss.map bH.ent)))) ri { r with ss:=gX r.ss g }:=by
 have hls:=hR.racks
 haveI ne:∀ {i:Nat} {o:O},H[i]? = some o->(∀xs,o≠ .dict xs)->r.d≠i:=λ{i o} h hn e=>by rw [<- e,hls] at h;cases h;exact hn _ rfl
 have get:∀ {i:Nat} {o:O},H[i]? = some o->(∀xs,o≠ .dict xs)->(H.set r.d (.dict (xD g (r.ss.map bH.ent))))[i]? = some o:=λh hn=>by rw [aaO (ne h hn)];exact h
 refine ⟨get hR.ob (by simp),get hR.plan (by simp),get hR.sizes (by simp),?_,λs hs=> ?_,get hR.cells (by simp)⟩
 ·show (H.set r.d _)[r.d]? = some (.dict ((gX r.ss g).map bH.ent))
  rw [aaA (aaa.mp hls).1,qP]
 ·have hm:=(aaz.mp hs).1
  exact ⟨get (hR.shelf s hm).ob (by simp),get (hR.shelf s hm).ls (by simp)⟩
theorem Rm.Ok.del (g:Int):Rm.Ok { r with ss:=gX r.ss g }:=by
 have sub:(gX r.ss g).Sublist r.ss:=List.filter_sublist
 have mem:∀s∈gX r.ss g,s∈r.ss:=λs hs=>sub.mem hs
 exact ⟨hO.p,hO.len,hO.sz,hO.ne,hO.ndp.sublist (sub.map _),hO.ndt.sublist (sub.map _),λs hs=>hO.pg s (mem s hs),λs hs=>hO.in' s (mem s hs),λs hs=>hO.slots s (mem s hs),hO.cs,
  λh=>hO.ct ((sub.map _).mem h),λh=>hO.mt ((sub.map _).mem h),hO.mc⟩
noncomputable def ll (ss:List bH) (s:bH):List bH:=if (dL ss s.pg).isSome then ss.map (λa=>if a.pg=s.pg then s else a) else ss++[s]
omit hR hO in
theorem E5 (ss:List bH) (s:bH):(ll ss s).map bH.ent=y6 s.pg (.inst "Shelf" s.sh) (ss.map bH.ent):=by
 unfold ll y6
 rw [iA,Option.isSome_map]
 split
 ·rw [aaV,aaV]
  refine aaZ λa _=> ?_
  show bH.ent (if a.pg=s.pg then s else a)=if (bH.ent a).1=s.pg then ((bH.ent a).1,.inst "Shelf" s.sh) else bH.ent a
  by_cases e:a.pg=s.pg
  ·rw [if_pos e,if_pos (show (bH.ent a).1=s.pg from e)];simp [bH.ent,e]
  ·rw [if_neg e,if_neg (show ¬(bH.ent a).1=s.pg from e)]
 ·rw [List.map_append];rfl
omit hR hO in
theorem gA {ss:List bH} {s x:bH} (h:x∈ll ss s):x=s\/(x∈ss/\x.pg≠s.pg):=by
 unfold ll at h
 split at h
 ·obtain ⟨a,ha,rfl⟩:=aaf.mp h
  by_cases e:a.pg=s.pg
  ·exact .inl (by rw [if_pos e])
  ·rw [if_neg e];exact .inr ⟨ha,e⟩
 ·rename_i hn
  rcases aap.mp h with h | h
  ·refine .inr ⟨h,λe=>hn ?_⟩
   cases hf:dL ss s.pg with
   | some _=>rfl
   | none=>exact absurd (aaf.mpr ⟨x,h,e⟩) (zj.mp hf)
  ·exact .inl (by simpa using h)
omit hR hO in
theorem GB {ss:List bH} {s:bH} (h1:(ss.map (·.pg)).Nodup) (h2:(ss.map (·.t)).Nodup) (h3:s.t∉ss.map (·.t)):((ll ss s).map (·.pg)).Nodup/\((ll ss s).map (·.t)).Nodup:=by
 have hp:ss.Pairwise λa b=>a.pg≠b.pg/\a.t≠b.t:=(aaP.mp h1).and (aaP.mp h2)
 have key:(ll ss s).Pairwise λa b=>a.pg≠b.pg/\a.t≠b.t:=by
  unfold ll
  split
  ·refine aaP.mpr (hp.imp_of_mem λ{a b} ha hb hab=> ?_)
   by_cases e1:a.pg=s.pg<;>by_cases e2:b.pg=s.pg
   ·exact absurd (e1.trans e2.symm) hab.1
   ·rw [if_pos e1,if_neg e2];exact ⟨λe=>e2 e.symm,λe=>h3 (aaf.mpr ⟨b,hb,e.symm⟩)⟩
   ·rw [if_neg e1,if_pos e2];exact ⟨e1,λe=>h3 (aaf.mpr ⟨a,ha,e⟩)⟩
   ·rw [if_neg e1,if_neg e2];exact hab
  ·rename_i hn
   refine aan.mpr ⟨hp,by simp,λa ha b hb=> ?_⟩
   simp at hb
   subst hb
   refine ⟨λe=>hn ?_,λe=>h3 (aaf.mpr ⟨a,ha,e⟩)⟩
   cases hf:dL ss b.pg with
   | some _=>rfl
   | none=>exact absurd (aaf.mpr ⟨a,ha,e⟩) (zj.mp hf)
 exact ⟨aaP.mpr (key.imp λh=>h.1),aaP.mpr (key.imp λh=>h.2)⟩
theorem aI.put {g z:Int} {k:Nat} {s:bH} (hs:s=⟨g,H.length,H.length+2,z,List.replicate k false⟩) :
  aI ((H++[O.flds (gS g z (H.length+2)),O.list [V.bool false],O.list ((List.replicate k false).map V.bool)]).set r.d (.dict (y6 g (.inst "Shelf" H.length) (r.ss.map bH.ent)))) ri { r with ss:=ll r.ss s }:=by
 have hdl:=(aaa.mp hR.racks).1
 haveI ne:∀ {i:Nat} {o:O},H[i]? = some o->(∀xs,o≠ .dict xs)->r.d≠i:=λ{i o} h hn e=>by rw [<- e,hR.racks] at h;cases h;exact hn _ rfl
 have get:∀ {i:Nat} {o:O},H[i]? = some o->(∀xs,o≠ .dict xs)->((H++[O.flds (gS g z (H.length+2)),O.list [V.bool false],O.list ((List.replicate k false).map V.bool)]).set r.d (.dict (y6 g (.inst "Shelf" H.length) (r.ss.map bH.ent))))[i]? = some o:=λh hn=>by
  rw [aaO (ne h hn)];exact aA ⟨_,rfl⟩ h
 refine ⟨get hR.ob (by simp),get hR.plan (by simp),get hR.sizes (by simp),?_,λs' hs'=> ?_,get hR.cells (by simp)⟩
 ·show (List.set _ r.d _)[r.d]? = some (O.dict ((ll r.ss s).map bH.ent))
  rw [aaA (by simp;exact id (cu 0x391c0110111 hdl)),E5,hs]
 ·rcases gA hs' with rfl | ⟨hm,_⟩
  ·subst hs
   refine ⟨?_,?_⟩
   ·show (List.set _ r.d _)[H.length]? = _
    rw [aaO (by exact λx9=>cu 0x9096103110112 hdl x9)];simp
   ·show (List.set _ r.d _)[H.length+2]? = _
    rw [aaO (by exact λx9=>cu 0x9096291c03110112 hdl x9)];simp
  ·exact ⟨get (hR.shelf s' hm).ob (by simp),get (hR.shelf s' hm).ls (by simp)⟩
theorem Rm.Ok.put {s:bH} (h1:0<=s.pg/\s.pg<r.p) (h2:s.sz∈r.xs) (h3:(s.bs.length:Int)=r.len.fdiv s.sz) (h4:H.length<=s.t):Rm.Ok { r with ss:=ll r.ss s }:=by
 haveI hlt:∀s'∈r.ss,s'.t<H.length:=λs' hs'=>(aaa.mp (hR.shelf s' hs').ls).1
 have h5:s.t∉r.ss.map (·.t):=λhm=>by
  obtain ⟨s',hs',e⟩:=aaf.mp hm
  haveI:=hlt s' hs'
  exact id (lh 0x90960211123110013 h4 e this)
 obtain ⟨p1,p2⟩:=GB hO.ndp hO.ndt h5
 haveI hc:=(aaa.mp hR.cells).1
 haveI hm:=(aaa.mp hR.sizes).1
 refine ⟨hO.p,hO.len,hO.sz,hO.ne,p1,p2,λx hx=> ?_,λx hx=> ?_,λx hx=> ?_,hO.cs,λhx=> ?_,λhx=> ?_,hO.mc⟩
 ·rcases gA hx with rfl | ⟨hx,_⟩
  ·exact h1
  ·exact hO.pg x hx
 ·rcases gA hx with rfl | ⟨hx,_⟩
  ·exact h2
  ·exact hO.in' x hx
 ·rcases gA hx with rfl | ⟨hx,_⟩
  ·exact h3
  ·exact hO.slots x hx
 ·obtain ⟨x,hx,e⟩:=aaf.mp hx
  rcases gA hx with rfl | ⟨hx,_⟩
  ·dsimp only at e;exact id (lh 0x90960221210110113 hc h4 e)
  ·exact hO.ct (aaf.mpr ⟨x,hx,e⟩)
 ·obtain ⟨x,hx,e⟩:=aaf.mp hx
  rcases gA hx with rfl | ⟨hx,_⟩
  ·dsimp only at e;exact id (lh 0x90960221210110113 hm h4 e)
  ·exact hO.mt (aaf.mpr ⟨x,hx,e⟩)
end
theorem oE:∀(l:List bH) (s:bH),(dL l s.pg).isSome=true->dL (l.map λa=>if a.pg=s.pg then s else a) s.pg=some s
 | [],s,h=>by simp [dL] at h
 | a::l,s,h=>by
  unfold dL
  rw [aaq]
  by_cases e:a.pg=s.pg
  ·rw [if_pos e,aaJ (by simp)]
  ·rw [if_neg e,aay (p:=λs':bH=>s'.pg==s.pg) (by simpa using e)]
   refine oE l s ?_
   unfold dL at h
   rw [aay (p:=λs':bH=>s'.pg==s.pg) (by simpa using e)] at h
   exact h
theorem mI (ss:List bH) (s:bH):dL (ll ss s) s.pg=some s:=by
 unfold ll
 split
 ·rename_i h;exact oE ss s h
 ·rename_i h
  haveI hn:dL ss s.pg=none:=by cases hf:dL ss s.pg with | none=>rfl | some _=>rw [hf] at h;simp at h
  unfold dL at hn ⊢
  rw [List.find?_append,hn]
  simp
theorem EX {p:Int} {ss:List bH} {g:Int} (h:g∈iM p ss):(0<=g/\g<p)/\dL ss g=none:=by
 unfold iM at h
 obtain ⟨h1,h2⟩:=aaz.mp h
 obtain ⟨k,hk,rfl⟩:=aaf.mp h1
 haveI:=List.mem_range.mp hk
 refine ⟨⟨by simp,Int.lt_toNat.mp this⟩,?_⟩
 simpa using h2
theorem Ee {ss:List bH} {g:Int} (h:g∈mB ss):∃s,dL ss g=some s/\s.bs.count true=0:=by
 unfold mB at h
 obtain ⟨h1,h2⟩:=aaz.mp h
 split at h2
 ·rename_i s hs;exact ⟨s,hs,by simpa using h2⟩
 ·cases h2
noncomputable def tq (p:Int) (ss:List bH):Option Int:=match iM p ss with
 | g::_=>some g
 | []=>(mB ss).head?
section
variable {H:Hp} {ri:Nat} {r:Rm} (hR:aI H ri r) (hO:r.Ok)
include hR hO
theorem EU {z:Int} (hz:z∈r.xs):iB [.inst "Plan" r.pl,.int z] H= .ok (.int (r.len.fdiv z)) H:=by
 haveI h1:=hO.sz.low z hz
 rw [Jq H r.pl r.p r.len r.xs z hR.isPlan (λ_=>by exact λx9=>bY 0x9096090a1019812 h1 x9),if_pos hz]
theorem rc {z:Int} (hz:z∈r.xs):1<=r.len.fdiv z/\r.len.fdiv z<=60:=by
 haveI h1:=hO.sz.low z hz
 haveI h2:=hO.sz.top z hz
 have h3:=hO.len
 obtain ⟨a,b,c,d⟩:=c7 (a:=r.len) (b:=z) (by exact bY 0x98019811 h3.1) h1
 exact ⟨tQ a d h2,by exact pD 0x3ca18018100003ca0812 h3.2 b⟩
theorem tU {l:bp} {n:Nat} {g z:Int} {rest:List Int} (a1:l "self" = some (.inst "Room" ri)) (a2:l "size" = some (.int z)) (a3:l "pages" = some (.ref n)) (hn:H[n]? = some (.list ((g::rest).map V.int))) (hz:z∈r.xs) :
  ∃H',A3 (aB (ng) (nh) ⟨l,H⟩= .ok (.ret (.inst "Shelf" H.length)) ⟨l,H'⟩) (aI H' ri { r with ss:=ll r.ss ⟨g,H.length,H.length+2,z,List.replicate (r.len.fdiv z).toNat false⟩ }) (cA [r.d] H H'):=by
 haveI hp:=EU hR hO hz
 obtain ⟨p1,p2⟩:=rc hR hO hz
 haveI hmk:=Iz H g z (r.len.fdiv z) ⟨by exact bY 0x98019811 p1,by exact bY 0x3e8a0800003ca0811 p2⟩
 obtain ⟨k,hk⟩:∃k,(r.len.fdiv z).toNat=k:=⟨_,rfl⟩
 rw [hk] at hmk ⊢
 haveI hdl:=(aaa.mp hR.racks).1
 have hP:=aI.put hR hO (g:=g) (z:=z) (k:=k) rfl
 obtain ⟨H2,eH2⟩:∃H2,H++[O.flds (gS g z (H.length+2)),O.list [V.bool false],O.list ((List.replicate k false).map V.bool)]=H2:=⟨_,rfl⟩
 rw [eH2] at hP hmk
 have pre2:H<+:H2:=⟨_,eH2⟩
 have hR2:=hR.pre pre2
 obtain ⟨H3,eH3⟩:∃H3,H2.set r.d (.dict (y6 g (.inst "Shelf" H.length) (r.ss.map bH.ent)))=H3:=⟨_,rfl⟩
 rw [eH3] at hP
 haveI hit:∀l,aJ (.ref n) (.int 0) ⟨l,H⟩= .ok (.int g) ⟨l,H⟩:=λl=>xF hn
 haveI hit2:∀l,aJ (.ref n) (.int 0) ⟨l,H2⟩= .ok (.int g) ⟨l,H2⟩:=λl=>xF (aA pre2 hn)
 haveI hne:r.d≠n:=λe=>by rw [<- e,hR.racks] at hn;cases hn
 haveI hit3:∀l,aJ (.ref n) (.int 0) ⟨l,H3⟩= .ok (.int g) ⟨l,H3⟩:=λl=>by
  haveI:H3[n]? = some (.list ((g::rest).map V.int)):=by rw [<- eH3,aaO hne];exact aA pre2 hn
  exact xF this
 haveI hfew:=hO.few
 haveI hset:∀l,cY (.ref r.d) (.int g) (.inst "Shelf" H.length) ⟨l,H2⟩= .ok () ⟨l,H3⟩:=λl=>by
  haveI:(r.ss.map bH.ent).length<1000000:=by simp;exact id (b9 0xf4240a01000028a0011 hfew)
  unfold cY;dsimp only;rw [hR2.racks];dsimp only;rw [if_pos this,eH3]
 haveI hm:∀l,d5 "Plan" "per" (.inst "Plan" r.pl) ⟨l,H⟩= .ok () ⟨l,H⟩:=λl=>eY hR.plan (E0 _ _ _)
 refine ⟨H3,?_,hP,(cA.pre pre2).trans (by rw [<- eH3];exact cA.set (by simp))⟩
 refine ak (q':=⟨l,H3⟩) ?_ ?_
 ·exists a1,a2,a3,hit,jp hR,hm,hp,hmk,bw hR2,hit2,hset
 ·haveI hf:=mI r.ss ⟨g,H.length,H.length+2,z,List.replicate k false⟩
  exists a1,a3,bw hP,hit3,dh hP hf
theorem GM {z:Int} (hz:z∈r.xs):match tq r.p r.ss with
  | none=> ∃H',hV [.inst "Room" ri,.int z] H= .exc "NoRoom" H'/\H<+:H'
  | some g=> ∃n H',hV [.inst "Room" ri,.int z] H= .ok (.inst "Shelf" n) H'/\H.length<=n/\n+2<H'.length/\(0<=g/\g<r.p) /\
    aI H' ri { r with ss:=ll r.ss ⟨g,n,n+2,z,List.replicate (r.len.fdiv z).toNat false⟩ }/\cA [r.d] H H':=by
 obtain ⟨l0,e0,a1,a2⟩:∃l0,a9 ["self", "size"] [.inst "Room" ri,.int z]=l0/\l0 "self" = some (.inst "Room" ri)/\l0 "size" = some (.int z):=⟨_,rfl,rfl,rfl⟩
 obtain ⟨_,hpl,rfl⟩:=IA hR hO
 refine bz (H++[O.list ((iM r.p r.ss).map V.int)]) λH1 eH1=> ?_
 rw [eH1] at hpl
 have pre1:H<+:H1:=⟨_,eH1⟩
 have x1:H1[H.length]? = some (.list ((iM r.p r.ss).map V.int)):=by rw [<- eH1];exact aN _ _
 haveI hR1:=hR.pre pre1
 haveI hm:∀ {f:String} {Hx:Hp} (hRx:aI Hx ri r) (h:f ≠ "plan" /\ f ≠ "racks" /\ f ≠ "cells") (l:bp),d5 "Room" f (.inst "Room" ri) ⟨l,Hx⟩= .ok () ⟨l,Hx⟩:=λhRx h l=>bA hRx h l
 have s1:m9 ⟨l0,H⟩= .ok .next ⟨upd l0 "pages" (.ref H.length),H1⟩:=by
  exists a1,bA hR (f := "pile") ⟨by decide,by decide,by decide⟩,hpl
 refine bz (upd l0 "pages" (.ref H.length)) λl1 el1=> ?_
 rw [el1] at s1
 have b1:l1 "self" = some (.inst "Room" ri):=ah el1 ∅ a1
 have b2:l1 "size" = some (.int z):=ah el1 ∅ a2
 have b3:l1 "pages" = some (.ref H.length):=ay el1
 have nw:∀(l:bp) (Hx:Hp),eU [] ⟨l,Hx⟩= .ok (.ref Hx.length) ⟨l,Hx++[.list []]⟩:=λl Hx=>g_nl0 rfl
 have cmp:∀(l:bp) (Hx:Hp) (n:Nat) (ks:List Int),Hx[n]? = some (.list (ks.map V.int))->nZ (.ref n) (.ref Hx.length) ⟨l,Hx++[.list []]⟩= .ok (decide (ks=[])) ⟨l,Hx++[.list []]⟩:=λl Hx n ks h =>
  jZ (q:=⟨l,Hx++[.list []]⟩) (ys:=[]) (aA ⟨_,rfl⟩ h) (aN _ _)
 refine bz (H1++[O.list []]) λH2 eH2=> ?_
 have pre2:H1<+:H2:=⟨_,eH2⟩
 have hR2:=hR1.pre pre2
 have c2:=cmp l1 H1 H.length _ x1
 have n2:=nw l1 H1
 rw [eH2] at c2 n2
 unfold tq
 cases hpile:iM r.p r.ss with
 | cons g rest =>
  rw [hpile] at x1 c2
  have s2:iW ⟨l1,H1⟩= .ok .next ⟨l1,H2⟩:=by
   exists b3,n2,c2
  refine bz (H2++[O.list []]) λH3 eH3=> ?_
  have pre3:H2<+:H3:=⟨_,eH3⟩
  have c3:=cmp l1 H2 H.length _ (aA pre2 x1)
  have n3:=nw l1 H2
  rw [eH3] at c3 n3
  haveI s3:fT ⟨l1,H2⟩= .ok .next ⟨l1,H3⟩:=by
   exists b3,n3,c3
  haveI hR3:=hR2.pre pre3
  obtain ⟨H4,s4,k1,k2⟩:=tU hR3 hO b1 b2 b3 (aA (pre2.trans pre3) x1) hz
  have p03:=(pre1.trans pre2).trans pre3
  refine ⟨H3.length,H4,bg (m:=ij) (q:=⟨l1,H4⟩) rfl (by rw [e0];exact ak s1 (ak s2 (ak s3 s4))),p03.length_le,?_,(EX (by rw [hpile];exact .head _)).1,k1,(cA.pre p03).trans k2⟩
  haveI:=k1.shelf _ (aS (mI r.ss ⟨g,H3.length,H3.length+2,z,List.replicate (r.len.fdiv z).toNat false⟩)).1
  exact (aaa.mp this.ls).1
 | nil =>
  rw [hpile] at x1 c2
  obtain ⟨n,H3,he,pre3,x3⟩:=yE hR2 hO
  haveI hR3:=hR2.pre pre3
  haveI s2:iW ⟨l1,H1⟩= .ok .next ⟨upd l1 "pages" (.ref n),H3⟩:=by
   exists b3,n2,c2,b1,bA hR2 (f := "empty_pages") ⟨by decide,by decide,by decide⟩,he
  refine bz (upd l1 "pages" (.ref n)) λl2 el2=> ?_
  rw [el2] at s2
  haveI d1:l2 "self" = some (.inst "Room" ri):=ah el2 ∅ b1
  haveI d2:l2 "size" = some (.int z):=ah el2 ∅ b2
  have d3:l2 "pages" = some (.ref n):=ay el2
  refine bz (H3++[O.list []]) λH4 eH4=> ?_
  have pre4:H3<+:H4:=⟨_,eH4⟩
  haveI c3:=cmp l2 H3 n _ x3
  haveI n3:=nw l2 H3
  rw [eH4] at c3 n3
  have p04:=((pre1.trans pre2).trans pre3).trans pre4
  cases hem:mB r.ss with
  | nil =>
   rw [hem] at c3
   haveI s3x:fT ⟨l2,H3⟩= .exc "NoRoom" ⟨l2,H4⟩:=by
    exists d3,n3,c3
   exact ⟨H4,mH (m:=ij) (q:=⟨l2,H4⟩) rfl (by rw [e0];exact ak s1 (ak s2 (nQ s3x))),p04⟩
  | cons g rest =>
   rw [hem] at c3 x3
   haveI s3:fT ⟨l2,H3⟩= .ok .next ⟨l2,H4⟩:=by
    exists d3,n3,c3
   haveI hR4:=hR3.pre pre4
   obtain ⟨H5,s4,k1,k2⟩:=tU hR4 hO d1 d2 d3 (aA pre4 x3) hz
   obtain ⟨s,hs,_⟩:=Ee (ss:=r.ss) (g:=g) (by rw [hem];exact .head _)
   obtain ⟨hsm,rfl⟩:=aS hs
   refine ⟨H4.length,H5,bg (m:=ij) (q:=⟨l2,H5⟩) rfl (by rw [e0];exact ak s1 (ak s2 (ak s3 s4))),p04.length_le,?_,hO.pg s hsm,k1,(cA.pre p04).trans k2⟩
   haveI:=k1.shelf _ (aS (mI r.ss ⟨s.pg,H4.length,H4.length+2,z,List.replicate (r.len.fdiv z).toNat false⟩)).1
   exact (aaa.mp this.ls).1
end
abbrev Vw:=Int->Option (Int×List Bool)
noncomputable def look (ss:List bH):Vw:=λg=>(dL ss g).map λs=>(s.sz,s.bs)
noncomputable def cS (F:Vw) (g:Int) (v:Option (Int×List Bool)):Vw:=λx=>if x=g then v else F x
theorem bQ (F:Vw) (g:Int) (v:Option (Int×List Bool)):cS F g v g=v:=by simp [cS]
theorem du (F:Vw) {g x:Int} (v:Option (Int×List Bool)) (h:x≠g):cS F g v x=F x:=by simp [cS,h]
noncomputable def bf (p:Int):List Int:=(List.range p.toNat).map Int.ofNat
noncomputable def cn (p:Int) (F:Vw):List Int:=(bf p).filter λg=>(F g).isSome
theorem bV {p g:Int}:g∈bf p↔0<=g/\g<p:=by
 unfold bf
 rw [aaf]
 constructor
 ·rintro ⟨k,hk,rfl⟩
  haveI:=List.mem_range.mp hk
  exact ⟨by simp,Int.lt_toNat.mp this⟩
 ·rintro ⟨h1,h2⟩
  exact ⟨g.toNat,List.mem_range.mpr (by exact fu [_,_] [_,_] 0x1011f18100fa110913 h2 (aah h1) (aaY _)),by simp;exact Int.max_eq_left h1⟩
theorem eq (p:Int):(bf p).Pairwise (· < ·):=aaP.mpr (List.pairwise_lt_range.imp λh=>by simpa using h)
theorem mM {l:List Int} (h:l.Pairwise (· < ·)):l.Nodup:=h.imp λh e=>by exact pD 0x909610b110912 h e
theorem iJ {p:Int} {F:Vw} {g:Int}:g∈cn p F↔(0<=g/\g<p)/\(F g).isSome=true:=by
 unfold cn;rw [aaz,bV]
theorem bB {ss:List bH} {g:Int} {v:Int×List Bool} (h:look ss g=some v):∃s,A3 (dL ss g=some s) (s.sz=v.1) (s.bs=v.2):=by
 unfold look at h
 cases hf:dL ss g with
 | none=>rw [hf] at h;cases h
 | some s=>rw [hf] at h;cases h;exact ⟨s,rfl,rfl,rfl⟩
theorem Gb {p:Int} {ss:List bH} (hn:(ss.map (·.pg)).Nodup) (hp:∀s∈ss,0<=s.pg/\s.pg<p):cD (ss.map (·.pg))=cn p (look ss):=by
 have hs:(cn p (look ss)).Pairwise (· < ·):=(eq p).filter _
 refine (iT ?_ (hs.imp λh=>by exact pD 0x10810911 h)).symm
 refine (List.perm_ext_iff_of_nodup (mM hs) hn).mpr λg=> ?_
 rw [iJ]
 constructor
 ·rintro ⟨_,h⟩
  cases hf:look ss g with
  | none=>rw [hf] at h;cases h
  | some v =>
   obtain ⟨s,hs,_⟩:=bB hf
   obtain ⟨h1,h2⟩:=aS hs
   exact aaf.mpr ⟨s,h1,h2⟩
 ·intro h
  obtain ⟨s,hs,rfl⟩:=aaf.mp h
  exact ⟨hp s hs,by unfold look;rw [kH hn hs];rfl⟩
noncomputable def eW (F:Vw) (z g:Int):Bool:=match F g with | some v=>decide (v.1=z) | none=>false
noncomputable def Eb (F:Vw) (g:Int):Bool:=match F g with | some v=>decide (v.2.count true=0) | none=>false
theorem Gi (ss:List bH) (z g:Int):(match dL ss g with | some s=>decide (s.sz=z) | none=>false)=eW (look ss) z g:=by
 unfold eW look;cases dL ss g<;>rfl
theorem Gh (ss:List bH) (g:Int):(match dL ss g with | some s=>decide (s.bs.count true=0) | none=>false)=Eb (look ss) g:=by
 unfold Eb look;cases dL ss g<;>rfl
noncomputable def bh (p:Int) (F:Vw) (z:Int):List Int:=(cn p F).filter (eW F z)
noncomputable def o7 (p:Int) (F:Vw):List Int:=(cn p F).filter (Eb F)
noncomputable def FW (p:Int) (F:Vw):List Int:=(bf p).filter λg=>(F g).isNone
theorem Gr (p:Int) (ss:List bH):iM p ss=FW p (look ss):=by
 unfold iM FW bf
 refine List.filter_congr λg _=> ?_
 unfold look;cases dL ss g<;>rfl
noncomputable def Ej (p:Int) (F:Vw):Option Int:=match FW p F with
 | g::_=>some g
 | []=>(o7 p F).head?
theorem pf (f:bH->bH) (hf:∀s,(f s).pg=s.pg):∀(ss:List bH) (g:Int),dL (ss.map f) g=(dL ss g).map f
 | [],_=>rfl
 | a::ss,g=>by
  unfold dL
  rw [aaq]
  by_cases e:a.pg=g
  ·rw [aaJ (by simpa [hf] using e),aaJ (by simpa using e)];rfl
  ·rw [aay (p:=λs:bH=>s.pg==g) (by simpa [hf] using e),aay (p:=λs:bH=>s.pg==g) (by simpa using e)];exact pf f hf ss g
theorem pi {ss:List bH} {g:Int} {s:bH} (h:dL ss g=some s) (bs:List Bool):look (setBs ss g bs)=cS (look ss) g (some (s.sz,bs)):=by
 funext x
 have e:=pf (λs=>if s.pg=g then { s with bs:=bs } else s) (λs=>by split<;>rfl) ss x
 unfold look setBs
 rw [e]
 by_cases hx:x=g
 ·subst hx
  rw [h,bQ]
  have:=(aS h).2
  simp [this]
 ·rw [du _ _ hx]
  cases hf:dL ss x with
  | none=>rfl
  | some a =>
   haveI:=(aS hf).2
   simp [this,hx]
theorem BN (g:Int):∀(ss:List bH) (x:Int),dL (gX ss g) x=if x=g then none else dL ss x
 | [],x=>by simp [gX,dL]
 | a::ss,x=>by
  have ih:=BN g ss x
  unfold gX at ih ⊢
  by_cases e:a.pg=g
  ·rw [aaG (by simp [e]),ih]
   by_cases hx:x=g
   ·rw [if_pos hx,if_pos hx]
   ·rw [if_neg hx,if_neg hx];unfold dL;rw [aay (p:=λs:bH=>s.pg==x) (xv e hx)]
  ·rw [aaL (by simp [e])]
   unfold dL at ih ⊢
   by_cases e2:a.pg=x
   ·rw [aaJ (by simpa using e2),aaJ (by simpa using e2),if_neg λq=>e (e2.trans q)]
   ·rw [aay (p:=λs:bH=>s.pg==x) (by simpa using e2),aay (p:=λs:bH=>s.pg==x) (by simpa using e2)];exact ih
theorem uk (ss:List bH) (g:Int):look (gX ss g)=cS (look ss) g none:=by
 funext x
 unfold look cS
 rw [BN]
 split<;>rfl
theorem AM (ss:List bH) (s:bH) {x:Int} (hx:x≠s.pg):dL (ll ss s) x=dL ss x:=by
 unfold ll
 split
 ·rename_i h0
  clear h0
  induction ss with
  | nil=>rfl
  | cons a ss ih =>
   unfold dL at ih ⊢
   rw [aaq]
   by_cases e:a.pg=s.pg
   ·rw [if_pos e,aay (p:=λs:bH=>s.pg==x) (xv rfl hx),aay (p:=λs:bH=>s.pg==x) (xv e hx),ih]
   ·rw [if_neg e]
    by_cases e2:a.pg=x
    ·rw [aaJ (by simpa using e2),aaJ (by simpa using e2)]
    ·rw [aay (p:=λs:bH=>s.pg==x) (by simpa using e2),aay (p:=λs:bH=>s.pg==x) (by simpa using e2),ih]
 ·unfold dL
  rw [List.find?_append,aay (p:=λs:bH=>s.pg==x) (xv rfl hx)]
  simp
theorem ED (ss:List bH) (s:bH):look (ll ss s)=cS (look ss) s.pg (some (s.sz,s.bs)):=by
 funext x
 by_cases hx:x=s.pg
 ·subst hx;rw [bQ];unfold look;rw [mI];rfl
 ·rw [du _ _ hx];unfold look;rw [AM _ _ hx]
theorem Rm.Ok.keys {r:Rm} (h:r.Ok):cD (r.ss.map (·.pg))=cn r.p (look r.ss):=Gb h.ndp h.pg
theorem Rm.Ok.ofSz {r:Rm} (h:r.Ok) (z:Int):Mine.Lake.ofSz r.ss z=bh r.p (look r.ss) z:=by
 unfold Mine.Lake.ofSz bh;rw [h.keys];exact List.filter_congr λg _=>Gi r.ss z g
theorem Rm.Ok.empt {r:Rm} (h:r.Ok):mB r.ss=o7 r.p (look r.ss):=by
 unfold mB o7;rw [h.keys];exact List.filter_congr λg _=>Gh r.ss g
theorem Rm.Ok.fresh {r:Rm} (h:r.Ok):tq r.p r.ss=Ej r.p (look r.ss):=by
 unfold tq Ej;rw [Gr,h.empt];try rfl
noncomputable def bZ (F:Vw) (g:Int):Nat:=match F g with | some v=>v.2.count true | none=>0
noncomputable def yO (F:Vw) (n:Nat):Option Int->Bool
 | none=>true
 | some g'=>decide (bZ F g'<n)
noncomputable def IP (F:Vw) (b:Option Int) (g:Int):Bool:=match F g with
 | some v=>(bn v.2).isSome&&yO F (v.2.count true) b
 | none=>false
noncomputable def FZ (F:Vw):Option Int->List Int->Option Int
 | b,[]=>b
 | b,g::r=>FZ F (if IP F b g then some g else b) r
theorem qS:∀(bs:List Bool) (a:Int),decide (lG a bs=[]) = !(bn bs).isSome
 | [],_=>rfl
 | false::r,a=>rfl
 | true::r,a=>by
  haveI:=qS r (a+1)
  show decide (lG (a+1) r=[]) = !((bn r).map (· + 1)).isSome
  rw [Option.isSome_map];exact this
theorem BF {F:Vw}:∀ {l:List Int} {b:Option Int} {g:Int},FZ F b l=some g->b=some g\/(g∈l/\ ∃v,F g=some v/\(bn v.2).isSome=true)
 | [],b,g,h=> .inl h
 | x::l,b,g,h=>by
  change FZ F (if IP F b x then some x else b) l=some g at h
  rcases BF h with h1 | ⟨h1,h2⟩
  ·split at h1
   ·rename_i hok
    cases h1
    refine .inr ⟨.head _,?_⟩
    unfold IP at hok
    split at hok
    ·rename_i v hv;exact ⟨v,hv,by simp at hok;simp [hok.1]⟩
    ·cases hok
   ·exact .inl h1
  ·exact .inr ⟨.tail _ h1,h2⟩
section
variable {H:Hp} {ri:Nat} {r:Rm} (hR:aI H ri r) (hO:r.Ok)
noncomputable def wt (ss:List bH):Option Int->V
 | none=> .none
 | some g=>match dL ss g with | some s=> .inst "Shelf" s.sh | none=> .none
inductive Js (H:Hp) (ri:Nat) (r:Rm) (z w:Int) (B:Option Int) (rem:List V) (q:S):Prop
 | mk (b:Option Int) (ys:List Int) (f0:rem=ys.map V.int) (f1:(∀g∈ys,∃s,dL r.ss g=some s)) (f2:FZ (look r.ss) b ys=B) (f3:(∀g,b=some g-> ∃s,dL r.ss g=some s)) (f4:q.l "best" = some (wt r.ss b)) (f5:q.l "self" = some (.inst "Room" ri)) (f6:q.l "size" = some (.int z)) (f7:H<+:q.H)
include hR hO
theorem Cp {s:bH} (hs:s∈r.ss) (l:bp):(∀l,d5 "Shelf" "free" (.inst "Shelf" s.sh) ⟨l,H⟩= .ok () ⟨l,H⟩)/\bD (fJ) [.inst "Shelf" s.sh] ⟨l,H⟩= .ok (.ref H.length) ⟨l,H++[.list ((lG 0 s.bs).map V.int)]⟩:=by
 have hS:=hR.shelf s hs
 exact ⟨λl=>eY hS.ob rfl,by rw [uF,Iu hS (hO.bslen hs)]⟩
theorem uJ {s:bH} (hs:s∈r.ss) (l:bp):(∀l,d5 "Shelf" "out" (.inst "Shelf" s.sh) ⟨l,H⟩= .ok () ⟨l,H⟩)/\bD (bO) [.inst "Shelf" s.sh] ⟨l,H⟩= .ok (.int (s.bs.count true)) ⟨l,H++[.list (List.replicate (s.bs.count true) (V.bool true))]⟩:=by
 have hS:=hR.shelf s hs
 exact ⟨λl=>eY hS.ob rfl,by rw [uF,Hk hS (hO.bslen hs)]⟩
theorem CS {z w:Int} {B:Option Int} (x:V) (rem:List V) (q:S) (hI:Js H ri r z w B (x::rem) q):∃q',A3 (((aL "page" x).b λ_=>jy) q= .ok .next q') (q.H<+:q'.H) (Js H ri r z w B rem q'):=by
 obtain ⟨b,ys,e,h1,h2,h3,h4,h5,h6,h7⟩:=hI
 obtain ⟨l,Hq⟩:=q
 dsimp only at h4 h5 h6 h7
 cases ys with
 | nil=>simp at e
 | cons g ys =>
  obtain ⟨rfl,rfl⟩:x= .int g/\rem=ys.map V.int:=by simpa using e
  obtain ⟨s,hs⟩:=h1 g (.head _)
  have hm:=(aS hs).1
  have hRq:=hR.pre h7
  haveI hl:look r.ss g=some (s.sz,s.bs):=by unfold look;rw [hs];rfl
  refine bz (Hq++[O.list ((lG 0 s.bs).map V.int)]) λH2 e2=> ?_
  refine bz (H2++[O.list []]) λH3 e3=> ?_
  have p2:Hq<+:H2:=⟨_,e2⟩
  have p3:H2<+:H3:=⟨_,e3⟩
  refine bz (upd (upd l "page" (.int g)) "shelf" (.inst "Shelf" s.sh)) λl1 el1=> ?_
  have a1:l1 "shelf" = some (.inst "Shelf" s.sh):=ay el1
  have a2:l1 "best" = some (wt r.ss b):=ly el1 ∅ ∅ h4
  have a3:l1 "self" = some (.inst "Room" ri):=ly el1 ∅ ∅ h5
  have a4:l1 "size" = some (.int z):=ly el1 ∅ ∅ h6
  haveI hself:upd l "page" (.int g) "self" = some (.inst "Room" ri):=ah rfl ∅ h5
  obtain ⟨m1,c1⟩:=Cp hRq hO hm l1
  rw [e2] at c1
  have n1:eU [] ⟨l1,H2⟩= .ok (.ref H2.length) ⟨l1,H3⟩:=by rw [mX,if_pos (by simp),e3]
  haveI g1:H3[Hq.length]? = some (.list ((lG 0 s.bs).map V.int)):=aA p3 (by rw [<- e2];simp)
  have q1:nZ (.ref Hq.length) (.ref H2.length) ⟨l1,H3⟩= .ok (!(bn s.bs).isSome) ⟨l1,H3⟩:=by
   rw [jZ (q:=⟨l1,H3⟩) (ys:=[]) g1 (by rw [<- e3];simp),qS]
  haveI s1:((aL "page" (.int g)).b λ_=>(((af "self").b λv13=>aE "racks" v13).b λv14=>(af "page").b λv15=>aJ v14 v15).b λv16=>(aL "shelf" v16).b λ_=>Cm.p Fl.next) ⟨l,Hq⟩= .ok .next ⟨l1,Hq⟩:=by
   exists hself,bw hRq,dh hRq hs,el1
  have key:∀rr m,(m ⟨l1,Hq⟩=rr)->((aL "page" (.int g)).b λ_=>aB ((((af "self").b λv13=>aE "racks" v13).b λv14=>(af "page").b λv15=>aJ v14 v15).b λv16=>(aL "shelf" v16).b λ_=>Cm.p Fl.next) m) ⟨l,Hq⟩=rr:=λrr m hh=>by
   rw [rZ,zQ] at s1 ⊢
   exact ak s1 hh
  have hbst:FZ (look r.ss) b (g::ys)=FZ (look r.ss) (if IP (look r.ss) b g then some g else b) ys:=rfl
  have hok:IP (look r.ss) b g=((bn s.bs).isSome&&yO (look r.ss) (s.bs.count true) b):=by unfold IP;rw [hl]
  rw [hbst,hok] at h2
  have iG:∀(bb:Bool) (H':Hp),((bn s.bs).isSome&&yO (look r.ss) (s.bs.count true) b)=bb->Hq<+:H' ->
    Js H ri r z w B (ys.map V.int) (if bb then ⟨upd l1 "best" (.inst "Shelf" s.sh),H'⟩ else ⟨l1,H'⟩):=λbb H' hbb hp=>by
   rw [hbb] at h2
   cases bb with
   | true =>
    refine ⟨some g,ys,rfl,λg' hg'=>h1 g' (.tail _ hg'),h2,λg' e=>by cases e;exact ⟨s,hs⟩,?_,?_,?_,h7.trans hp⟩
    ·simp [upd,wt,hs]
    ·simpa [upd] using a3
    ·simpa [upd] using a4
   | false=>exact ⟨b,ys,rfl,λg' hg'=>h1 g' (.tail _ hg'),h2,h3,a2,a3,a4,h7.trans hp⟩
  cases hf:(bn s.bs).isSome with
  | false =>
   rw [hf] at q1
   haveI:=iG false H3 (by rw [hf];rfl) (p2.trans p3)
   refine ⟨⟨l1,H3⟩,key _ _ ?_,p2.trans p3,this⟩
   exists a1,m1,c1,n1,q1
  | true =>
   rw [hf] at q1
   cases b with
   | none =>
    haveI:=iG true H3 (by rw [hf];rfl) (p2.trans p3)
    refine ⟨⟨upd l1 "best" (.inst "Shelf" s.sh),H3⟩,key _ _ ?_,p2.trans p3,this⟩
    simp only [wt] at a2
    exists a1,m1,c1,n1,q1,a2
   | some g' =>
    obtain ⟨s',hs'⟩:=h3 g' rfl
    haveI hm':=(aS hs').1
    have hRq3:=hRq.pre (p2.trans p3)
    obtain ⟨m2,c2⟩:=uJ hRq3 hO hm l1
    refine bz (H3++[O.list (List.replicate (s.bs.count true) (V.bool true))]) λH4 e4=> ?_
    rw [e4] at c2
    have p4:H3<+:H4:=⟨_,e4⟩
    obtain ⟨m3,c3⟩:=uJ (hRq3.pre p4) hO hm' l1
    refine bz (H4++[O.list (List.replicate (s'.bs.count true) (V.bool true))]) λH5 e5=> ?_
    rw [e5] at c3
    have p5:Hq<+:H5:=((p2.trans p3).trans p4).trans ⟨_,e5⟩
    haveI hc':bZ (look r.ss) g'=s'.bs.count true:=by unfold bZ look;rw [hs'];rfl
    have a2':l1 "best" = some (.inst "Shelf" s'.sh):=by rw [a2];simp [wt,hs']
    have hdec:decide (((s.bs.count true:Nat):Int)>((s'.bs.count true:Nat):Int))=decide (bZ (look r.ss) g'<s.bs.count true):=by rw [hc'];exact decide_eq_decide.mpr Em
    cases hb:decide (bZ (look r.ss) g'<s.bs.count true) with
    | true =>
     haveI:=iG true H5 (by rw [hf];simp only [yO,hb];rfl) p5
     refine ⟨⟨upd l1 "best" (.inst "Shelf" s.sh),H5⟩,key _ _ ?_,p5,this⟩
     exists a1,m1,c1,n1,q1,a2',m2,c2,m3,c3,hdec,hb
    | false =>
     haveI:=iG false H5 (by rw [hf];simp only [yO,hb];rfl) p5
     refine ⟨⟨l1,H5⟩,key _ _ ?_,p5,this⟩
     exists a1,m1,c1,n1,q1,a2',m2,c2,m3,c3,hdec,hb
end
noncomputable def Rm.own (ri:Nat) (r:Rm):List Nat:=ri::r.d::r.c::(r.ss.map (·.sh)++r.ss.map (·.t))
structure Rm.Sm (r r':Rm):Prop where
 pl:r'.pl=r.pl
 d:r'.d=r.d
 c:r'.c=r.c
 m:r'.m=r.m
 p:r'.p=r.p
 len:r'.len=r.len
 xs:r'.xs=r.xs
theorem Rm.Sm.rfl (r:Rm):r.Sm r:=⟨by rfl,by rfl,by rfl,by rfl,by rfl,by rfl,by rfl⟩
theorem Rm.Sm.ss (r:Rm) (ss:List bH):r.Sm { r with ss:=ss }:=⟨by rfl,by rfl,by rfl,by rfl,by rfl,by rfl,by rfl⟩
theorem Rm.Sm.cs (r:Rm) (cs:List Int):r.Sm { r with cs:=cs }:=⟨by rfl,by rfl,by rfl,by rfl,by rfl,by rfl,by rfl⟩
theorem Rm.Sm.trans {a b c:Rm} (h:a.Sm b) (k:b.Sm c):a.Sm c:=⟨k.pl.trans h.pl,k.d.trans h.d,k.c.trans h.c,k.m.trans h.m,k.p.trans h.p,k.len.trans h.len,k.xs.trans h.xs⟩
theorem uQ (ss:List bH) (g:Int) (bs:List Bool):(setBs ss g bs).map (·.sh)=ss.map (·.sh):=by
 unfold setBs;rw [aaV];refine aaZ λs _=> ?_
 show bH.sh (if s.pg=g then { s with bs:=bs } else s)=_
 split<;>rfl
theorem EO (ri:Nat) (r:Rm):r.c∈r.own ri:=by simp [Rm.own]
theorem EP (ri:Nat) (r:Rm):r.d∈r.own ri:=by simp [Rm.own]
theorem EQ (ri:Nat) {r:Rm} {s:bH} (h:s∈r.ss):s.t∈r.own ri:=by simp [Rm.own];exact .inr (.inr (.inr (.inr ⟨s,h,rfl⟩)))
theorem Ce {n:Nat} (ri:Nat) (r:Rm) (x:bH) (h1:n<=x.sh) (h2:n<=x.t):∀i∈Rm.own ri { r with ss:=ll r.ss x },i∈r.own ri\/n<=i:=λi hi=>by
 unfold Rm.own at hi ⊢
 simp at hi
 rcases hi with h | h | h | ⟨s,hs,rfl⟩ | ⟨s,hs,rfl⟩
 ·left;simp [h]
 ·left;simp [h]
 ·left;simp [h]
 ·rcases gA hs with rfl | ⟨hs,_⟩
  ·exact .inr h1
  ·left;simp;exact .inr (.inr (.inr (.inl ⟨s,hs,rfl⟩)))
 ·rcases gA hs with rfl | ⟨hs,_⟩
  ·exact .inr h2
  ·left;simp;exact .inr (.inr (.inr (.inr ⟨s,hs,rfl⟩)))
theorem cA.trans' {F F':List Nat} {H H' H'':Hp} (a:cA F H H') (b:cA F' H' H'') (h:∀i∈F',i∈F\/H.length<=i):cA F H H'' :=
 ⟨aao a.len b.len,λi hi hn=>(b.same i (aa9 hi a.len) λhm=>(h i hm).elim hn λh=>by exact cu 0x9096010110112 hi h).trans (a.same i hi hn)⟩
theorem uB {H:Hp} {ri:Nat} {r:Rm} (h:aI H ri r):∀i∈r.own ri,i<H.length:=λi hi=>by
 have lt:∀ {j:Nat} {o:O},H[j]? = some o->j<H.length:=λh=>(aaa.mp h).1
 unfold Rm.own at hi
 simp at hi
 rcases hi with rfl | rfl | rfl | ⟨s,hs,rfl⟩ | ⟨s,hs,rfl⟩
 ·exact lt h.ob
 ·exact lt h.racks
 ·exact lt h.cells
 ·exact lt (h.shelf s hs).ob
 ·exact lt (h.shelf s hs).ls
noncomputable def Bc (p len:Int) (F:Vw) (z:Int):Option (Int×Vw):=match FZ F none (bh p F z) with
 | some g=>some (g,F)
 | none=>(Ej p F).map λg=>(g,cS F g (some (z,List.replicate (len.fdiv z).toNat false)))
section
variable {H:Hp} {ri:Nat} {r:Rm} (hR:aI H ri r) (hO:r.Ok)
include hR hO
theorem yd {i v:Int} (h0:0<=i) (h1:i<r.cs.length) (l:bp):cY (.ref r.c) (.int i) (.int v) ⟨l,H⟩= .ok () ⟨l,H.set r.c (.list ((r.cs.set i.toNat v).map V.int))⟩:=by
 haveI h2:=hO.cs
 haveI h3:r.p*r.len<=40*60:=Int.mul_le_mul hO.p.2 hO.len.2 (by haveI:=hO.len;exact id (bY 0x98019811 this.1)) ∅
 haveI h4:i<1000000:=by exact Dg 0xf4240a0900003ca28d18110fa10f0913 h1 h2 h3
 unfold cY;dsimp only;rw [hR.cells];dsimp only;rw [if_pos ⟨h0,h4,by rw [aad];exact h1⟩,List.map_set]
theorem Co {i:Int} (h0:0<=i) (h1:i<r.cs.length):∃v,r.cs[i.toNat]? = some v/\ ∀l,aJ (.ref r.c) (.int i) ⟨l,H⟩= .ok (.int v) ⟨l,H⟩:=by
 haveI h2:=hO.cs
 haveI h3:r.p*r.len<=40*60:=Int.mul_le_mul hO.p.2 hO.len.2 (by haveI:=hO.len;exact id (bY 0x98019811 this.1)) ∅
 haveI h4:i<1000000:=by exact Dg 0xf4240a0900003ca28d18110fa10f0913 h1 h2 h3
 have h5:i.toNat<r.cs.length:=by exact jF 0x1101fa10f0912 h1 (aah h0)
 exact ⟨r.cs[i.toNat],aal h5,λl=>by unfold aJ;dsimp only;rw [hR.cells];dsimp only;rw [if_pos ⟨h0,h4⟩,abf,aal h5];rfl⟩
omit hR in
theorem nU {s:bH} (hs:s∈r.ss) {k:Int} (h0:0<=k) (h1:k<s.bs.length) {j:Int} (h2:0<=j) (h3:j<s.sz):A4 (0<=s.pg*r.len+k*s.sz+j) (s.pg*r.len+k*s.sz+j<r.cs.length) (k*s.sz+j<r.len) (0<=k*s.sz):=by
 have a1:=hO.pg s hs
 haveI a2:=hO.slots s hs
 have a3:=hO.szpos hs
 have a4:=hO.len
 have a5:=(c7 (a:=r.len) (b:=s.sz) (by exact bY 0x98019811 a4.1) a3.1).2.2.1
 haveI b1:0<=s.pg*r.len:=Int.mul_nonneg a1.1 (by exact bY 0x98019811 a4.1)
 have b2:0<=k*s.sz:=Int.mul_nonneg h0 (by exact bY 0x98019811 a3.1)
 have b3:(k+1)*s.sz<=r.len.fdiv s.sz*s.sz:=Int.mul_le_mul_of_nonneg_right (by exact Dg 0x1190c810fa10f0912 h1 a2) (by exact bY 0x98019811 a3.1)
 haveI b4:(s.pg+1)*r.len<=r.p*r.len:=Int.mul_le_mul_of_nonneg_right (by exact pD 0x1190c810911 a1.2) (by exact bY 0x98019811 a4.1)
 rw [Int.add_mul] at b3 b4
 haveI:=hO.cs
 refine ⟨by exact tZ 0x21cc0982098110981009813 h2 b1 b2,by exact fu [_] [_,_,_,_,_,_,_] 0xf045cc960fb16301d5c812101d4c81328110915 h3 a5 b3 b4 this,by exact fu [] [_,_,_,_,_] 0x304c92101d4c81328110913 h3 a5 b3,b2⟩
inductive Ki (H:Hp) (ri:Nat) (r:Rm) (pl z:Int) (rem:List V) (q:S):Prop
 | mk (cs ys:List Int) (f0:rem=ys.map V.int) (f1:(∀y∈ys,0<=y/\y<z)) (f2:cs.length=r.cs.length) (f3:aI q.H ri { r with cs:=cs }) (f4:cA [r.c] H q.H) (f5:q.l "self" = some (.inst "Room" ri)) (f6:q.l "place" = some (.int pl))
omit hR hO in
theorem Be (n:Int):∃ys:List Int,bN 0 n.toNat=ys.map V.int/\ ∀y∈ys,0<=y/\y<n:=by
 refine ⟨(List.range' 0 n.toNat).map Int.ofNat,nO _ 0,λy hy=> ?_⟩
 obtain ⟨k,hk,rfl⟩:=aaf.mp hy
 haveI:=List.mem_range'.mp hk
 obtain ⟨i,h1,h2⟩:=this
 exact ⟨by simp,by rw [h2,aa1,Nat.one_mul];exact Int.lt_toNat.mp h1⟩
theorem DD {pl z:Int} (hz:0<=z/\z<=1000) (hin:∀j,0<=j->j<z->0<=pl+j/\pl+j<r.cs.length) {l:bp} (h1:l "self" = some (.inst "Room" ri)) (h2:l "place" = some (.int pl)) (h3:l "size" = some (.int z)) :
  ∃cs q',A5 (jJ ⟨l,H⟩= .ok .next q') (cs.length=r.cs.length) (aI q'.H ri { r with cs:=cs }) (cA [r.c] H q'.H) (q'.l "place" = some (.int pl)):=by
 refine nH λG kG=> ?_
 obtain ⟨ys,e,hy⟩:=Be z
 obtain ⟨q',hq,cs,_,_,_,i1,i2,i3,i4,i5⟩:=fM (g:=λ_=>True) (bd:=aL "step") (body:=oo) (Ki H ri r pl z) (λx rem q hI=>by
  obtain ⟨cs,ys,e,h1,h2,h3,h4,h5,h6⟩:=hI
  obtain ⟨l,Hq⟩:=q
  dsimp only at h3 h4 h5 h6
  cases ys with
  | nil=>simp at e
  | cons y ys =>
   obtain ⟨rfl,rfl⟩:x= .int y/\rem=ys.map V.int:=by simpa using e
   obtain ⟨y1,y2⟩:=h1 y (.head _)
   have hO':=Rm.Ok.setCs hR hO h2
   obtain ⟨k1,k2⟩:=hin y y1 y2
   haveI hc:=yd h3 hO' (i:=pl+y) (v:=0) k1 (by show _<((cs.length:Nat):Int);exact id (fu [_,_] [_,_] 0xf10c91f10c9110312 h2 k2)) (upd l "step" (.int y))
   haveI hc2:=qh h3 (upd l "step" (.int y))
   have a1:upd l "step" (.int y) "self" = some (.inst "Room" ri):=ah rfl ∅ h5
   have a2:upd l "step" (.int y) "place" = some (.int pl):=ah rfl ∅ h6
   refine ⟨⟨upd l "step" (.int y),Hq.set r.c (.list ((cs.set (pl+y).toNat 0).map V.int))⟩,?_,trivial,cs.set (pl+y).toNat 0,ys,rfl,λy' hy'=>h1 y' (.tail _ hy'),by rw [List.length_set];exact h2,aI.setCs h3 hO' _,h4.trans (cA.set (by simp)),a1,a2⟩
   exists a1,a2,hc2,hc) _ ⟨l,H⟩ ⟨r.cs,ys,e,hy,rfl,hR,cA.refl _ _,h1,h2⟩
 refine kG ⟨cs,q',?_,i1,i2,i3,i5⟩
 exists h3,j3 z _ (Kc hz)
 exact hq
theorem Cq {s:bH} (hs:s∈r.ss) {k:Nat} (hk:bn s.bs=some k) (l:bp):A4 (∀l,d5 "Shelf" "take" (.inst "Shelf" s.sh) ⟨l,H⟩= .ok () ⟨l,H⟩) (bD (fK) [.inst "Shelf" s.sh] ⟨l,H⟩= .ok (.int k) ⟨l,H.set s.t (.list ((s.bs.set k true).map V.bool))⟩) (aI (H.set s.t (.list ((s.bs.set k true).map V.bool))) ri { r with ss:=setBs r.ss s.pg (s.bs.set k true) }) (Rm.Ok { r with ss:=setBs r.ss s.pg (s.bs.set k true) }):=by
 have hS:=hR.shelf s hs
 exact ⟨λl=>eY hS.ob rfl,by rw [uF,IE hS (hO.bslen hs),hk],aI.setBs hR hO hs _,Rm.Ok.setBs hR hO hs (by simp)⟩
theorem xh {g z:Int} {s:bH} (hf:dL r.ss g=some s) (hz:s.sz=z) {k:Nat} (hk:bn s.bs=some k) {l:bp} (h1:l "self" = some (.inst "Room" ri)) (h2:l "best" = some (.inst "Shelf" s.sh)) (h3:l "size" = some (.int z)) :
  ∃r' q',A7 (aB (jI) (aB (jJ) (oU)) ⟨l,H⟩= .ok (.ret (.int (g*r.len+k*z))) q') (aI q'.H ri r') r'.Ok (r.Sm r') (look r'.ss=cS (look r.ss) g (some (z,s.bs.set k true))) (cA (r.own ri) H q'.H) (r'.own ri=r.own ri):=by
 refine nH λG kG=> ?_
 obtain ⟨hs,rfl⟩:=aS hf
 subst hz
 obtain ⟨m1,c1,R1,O1⟩:=Cq hR hO hs hk l
 refine bz (H.set s.t (.list ((s.bs.set k true).map V.bool))) λH1 e1=> ?_
 haveI g1:cA (r.own ri) H H1:=by rw [<- e1];exact cA.set (EQ ri hs)
 rw [e1] at c1 R1
 have hk':=(gw hk).1
 haveI hb:=hO.bslen hs
 have hpg:=hO.pg s hs
 haveI hp:=hO.p
 haveI hs1:jf H1 s.sh s.t s.pg s.sz (s.bs.set k true):=R1.shelf { s with bs:=s.bs.set k true } (aaf.mpr ⟨s,hs,by simp⟩)
 haveI vb:=tD R1 (s:={ s with bs:=s.bs.set k true }) hs1 k ⟨hpg.1,by show s.pg<1000;exact id (pD 0x3e8a09000028a18110912 hpg.2 hp.2)⟩ ⟨by exact b9 0xf0980,by exact cu 0x3e8a0f90003e8a10110112 hk' hb⟩
 dsimp only at vb
 haveI s5:jI ⟨l,H⟩= .ok .next ⟨upd l "place" (.int (s.pg*r.len+k*s.sz)),H1⟩:=by
  exists h1,h2,bA hR (f := "begin") ⟨by decide,by decide,by decide⟩,m1,c1,vb
 have hsz:=hO.szpos hs
 haveI hlen:=hO.len
 obtain ⟨cs,q',i0,i1,i2,i3,i4⟩:=DD R1 O1 (pl:=s.pg*r.len+k*s.sz) (z:=s.sz) ⟨by exact bY 0x98019811 hsz.1,by exact pD 0x3e8a0800003ca18110812 hsz.2 hlen.2⟩ (λj j1 j2=>by
   obtain ⟨u1,u2,_⟩:=nU hO hs (k:=k) (by exact b9 0xf0980) (by exact cu 0x1f0f910111 hk') j1 j2
   exact ⟨u1,u2⟩) (l:=upd l "place" (.int (s.pg*r.len+k*s.sz))) (ah rfl ∅ h1) (by simp [upd]) (ah rfl ∅ h3)
 refine kG ⟨_,q',ak s5 (ak i0 ?_),i2,Rm.Ok.setCs R1 O1 i1,(Rm.Sm.ss r _).trans (Rm.Sm.cs _ cs),?_,g1.trans (i3.mono λi hi _=> ?_),?_⟩
 ·obtain ⟨l',H'⟩:=q'
  dsimp only at i4
  exists i4
 ·show look (setBs r.ss s.pg (s.bs.set k true))=_
  exact pi hf _
 ·rw [aaj.mp hi];exact EO ri r
 ·show Rm.own ri { r with ss:=setBs r.ss s.pg (s.bs.set k true) }=_
  unfold Rm.own
  dsimp only
  rw [uQ,nS]
omit hR hO in
theorem tR {n:Nat} (h:0<n):bn (List.replicate n false)=some 0:=by
 cases n with
 | zero=>exact id ((fu [] [] 0x90960909111 h).elim)
 | succ n=>rfl
theorem IG {w:Int} (hw:1<=w):match r.xs.find? (λx=>decide (x>=w)) with
  | none=>dp [.inst "Room" ri,.int w] H= .exc "TooLarge" H
  | some z=>match Bc r.p r.len (look r.ss) z with
   | none=> ∃H',dp [.inst "Room" ri,.int w] H= .exc "NoRoom" H'/\H<+:H'
   | some gF=> ∃bs k r' H',gF.2 gF.1=some (z,bs)/\bn bs=some k/\dp [.inst "Room" ri,.int w] H= .ok (.int (gF.1*r.len+(k:Nat)*z)) H'/\aI H' ri r'/\r'.Ok/\r.Sm r' /\
     look r'.ss=cS gF.2 gF.1 (some (z,bs.set k true))/\cA (r.own ri) H H'/\(∀i∈r'.own ri,i∈r.own ri\/H.length<=i):=by
 obtain ⟨l0,e0,a1,a2⟩:∃l0,a9 ["self", "places"] [.inst "Room" ri,.int w]=l0/\l0 "self" = some (.inst "Room" ri)/\l0 "places" = some (.int w):=⟨_,rfl,rfl,rfl⟩
 have hsf:=Bo H r.pl r.p r.len r.xs w hR.isPlan
 rw [if_neg (by exact bY 0x190d019811 hw)] at hsf
 have hmp:∀l,d5 "Plan" "size_for" (.inst "Plan" r.pl) ⟨l,H⟩= .ok () ⟨l,H⟩:=λl=>eY hR.plan (Id _ _ _)
 cases hz:r.xs.find? (λx=>decide (x>=w)) with
 | none =>
  rw [hz] at hsf
  refine mH (m:=gy) (q:=⟨l0,H⟩) rfl ?_
  rw [e0]
  refine nQ (bx ?_)
  exact bq (bq (g_get a1) (jp hR _)) (bq (hmp _) (bq (bq (g_get a2) rfl) (tu hsf)))
 | some z =>
  rw [hz] at hsf
  have hzx:z∈r.xs:=aa3 hz
  dsimp only
  refine nH λG kG=> ?_
  have s1:oQ ⟨l0,H⟩= .ok .next ⟨upd l0 "size" (.int z),H⟩:=by exists a1,a2,jp hR,hmp,hsf
  have s2:oR ⟨upd l0 "size" (.int z),H⟩= .ok .next ⟨upd (upd l0 "size" (.int z)) "best" .none,H⟩:=rfl
  refine bz (upd (upd l0 "size" (.int z)) "best" .none) λl2 el2=> ?_
  rw [el2] at s2
  have b1:l2 "self" = some (.inst "Room" ri):=ly el2 ∅ ∅ a1
  have b2:l2 "size" = some (.int z):=yC el2 ∅
  haveI b3:l2 "best" = some .none:=ay el2
  obtain ⟨n,H1,hof,p1,x1⟩:=Dw hR hO z
  haveI hR1:=hR.pre p1
  rw [hO.ofSz] at x1
  obtain ⟨q3,hq3,⟨b,ys,ey,_,i2,i3,i4,i5,i6,i7⟩,i8⟩:=fM (g:=λH=>av (.ref n) H=some ((bh r.p (look r.ss) z).map V.int)) (bd:=aL "page") (body:=jy) (λrem q=>Js H1 ri r z w (FZ (look r.ss) none (bh r.p (look r.ss) z)) rem q/\H1<+:q.H) (λx rem q hI=>by
   obtain ⟨q',k1,k2,k3⟩:=CS hR1 hO x rem q hI.1
   exact ⟨q',k1,bX (aA (hI.2.trans k2) x1),k3,hI.2.trans k2⟩) _ ⟨l2,H1⟩ ⟨⟨none,bh r.p (look r.ss) z,rfl,λg hg=>by
    obtain ⟨h1,_⟩:=aaz.mp hg
    have:=(iJ.mp h1).2
    cases hf:look r.ss g with
    | none=>rw [hf] at this;cases this
    | some v=>obtain ⟨s,hs,_⟩:=bB hf;exact ⟨s,hs⟩,rfl,λg e=>(by cases e),b3,b1,b2,aam _⟩,aam _⟩
  cases ys with
  | cons _ _=>cases ey
  | nil =>
  change b=_ at i2
  obtain ⟨l3,H3⟩:=q3
  dsimp only at i4 i5 i6 i7 i8
  have s3:oS ⟨l2,H⟩= .ok .next ⟨l3,H3⟩:=by
   exists b1,b2,bA hR (f := "of_size") ⟨by decide,by decide,by decide⟩,hof,dJ x1
   exact hq3
  have p3:H<+:H3:=p1.trans i7
  have hR3:=hR.pre p3
  unfold Bc at kG
  rw [<- i2] at kG
  cases b with
  | some g =>
   obtain ⟨s,hs⟩:=i3 g rfl
   have i4':l3 "best" = some (.inst "Shelf" s.sh):=by rw [i4];simp [wt,hs]
   haveI hb:=i2.symm
   rcases BF hb with h | ⟨hgm,v,hv,hfv⟩
   ·cases h
   have hlk:look r.ss g=some (s.sz,s.bs):=by unfold look;rw [hs];rfl
   rw [hlk] at hv
   cases hv
   have hsz:s.sz=z:=by
    haveI:=(aaz.mp hgm).2
    unfold eW at this
    rw [hlk] at this
    simpa using this
   obtain ⟨k,hk⟩:=aaT.mp hfv
   haveI s4:jH ⟨l3,H3⟩= .ok .next ⟨l3,H3⟩:=by
    exists i4'
   obtain ⟨r',q',t1,t2,t3,t4,t5,t6,t7⟩:=xh hR3 hO hs hsz hk i5 i4' i6
   refine kG ⟨s.bs,k,r',q'.H,by show look r.ss g=_;rw [hlk,hsz],hk,bg (m:=gy) rfl (by rw [e0];exact ak s1 (ak s2 (ak s3 (ak s4 t1)))),t2,t3,t4,t5,(cA.pre p3).trans t6,λi hi=> .inl (t7▸hi)⟩
  | none =>
   have i4':l3 "best" = some .none:=i4
   have hfr:=GM hR3 hO hzx
   rw [hO.fresh] at hfr
   cases hp:Ej r.p (look r.ss) with
   | none =>
    rw [hp] at hfr kG
    obtain ⟨H4,h4,p4⟩:=hfr
    refine kG ⟨H4,mH (m:=gy) (q:=⟨l3,H4⟩) rfl ?_,p3.trans p4⟩
    rw [e0]
    refine ak s1 (ak s2 (ak s3 (nQ ?_)))
    exact bq (bq (g_get i4') (bq rfl rfl)) (it_t rfl (bx (bq (g_get i5) (bq (bA hR3 (f := "fresh") ⟨by decide,by decide,by decide⟩ _) (bq (bq (g_get i6) rfl) (tu h4))))))
   | some g =>
    rw [hp] at hfr kG
    obtain ⟨m,H4,h4,n1,n2,n3,n4,n5⟩:=hfr
    obtain ⟨q1,q2⟩:=rc hR hO hzx
    haveI O4:=Rm.Ok.put hR3 hO (s:=⟨g,m,m+2,z,List.replicate (r.len.fdiv z).toNat false⟩) n3 hzx (by simp;exact Int.max_eq_left (aa8 ∅ q1)) (by show H3.length<=m+2;exact id (cu 0x291c0010011 n1))
    haveI s4:jH ⟨l3,H3⟩= .ok .next ⟨upd l3 "best" (.inst "Shelf" m),H4⟩:=by
     exists i4',i5,i6,bA hR3 (f := "fresh") ⟨by decide,by decide,by decide⟩,h4
    obtain ⟨r',q',t1,t2,t3,t4,t5,t6,t7⟩:=xh n4 O4 (g:=g) (mI r.ss ⟨g,m,m+2,z,List.replicate (r.len.fdiv z).toNat false⟩) rfl (tR (by exact ge 0x910f081019812 q1 (aaY _))) (l:=upd l3 "best" (.inst "Shelf" m)) (ah rfl ∅ i5) (by simp [upd]) (ah rfl ∅ i6)
    refine kG ⟨List.replicate (r.len.fdiv z).toNat false,0,r',q'.H,bQ _ _ _,tR (by exact ge 0x910f081019812 q1 (aaY _)),bg (m:=gy) rfl (by rw [e0];exact ak s1 (ak s2 (ak s3 (ak s4 t1)))),t2,t3,(Rm.Sm.ss r _).trans t4,?_,?_,λi hi=> ?_⟩
    ·rw [t5];dsimp only;rw [ED]
    ·exact ((cA.pre p3).trans (n5.mono λi hi _=>by rw [aaj.mp hi];exact EP ri r)).trans' t6 (Ce ri r _ (aao p3.length_le n1) (aao p3.length_le (by show H3.length<=m+2;exact id (cu 0x291c0010011 n1))))
    ·rw [t7] at hi
     exact Ce ri r _ (aao p3.length_le n1) (aao p3.length_le (by show H3.length<=m+2;exact id (cu 0x291c0010011 n1))) i hi
end
theorem Jy {q b r:Int} (h0:0<=r) (h1:r<b):(q*b+r).fdiv b=q/\(q*b+r).fmod b=r:=by
 haveI hb:b≠0:=by exact λx9=>pD 0x9096091a11091009813 h0 h1 x9
 rw [Int.fdiv_eq_ediv_of_nonneg _ (by exact pD 0x10981091009812 h0 h1),Int.fmod_eq_emod_of_nonneg _ (by exact pD 0x10981091009812 h0 h1),Int.add_comm,Int.add_mul_ediv_right _ _ hb,Int.ediv_eq_zero_of_lt h0 h1,Int.add_mul_emod_self_right,Int.emod_eq_of_lt h0 h1]
 simp
theorem I7 {q b:Int} (h1:0<b):(q*b).fdiv b=q/\(q*b).fmod b=0:=by
 haveI:=Jy (q:=q) (b:=b) (r:=0) ∅ h1
 simpa using this
theorem tV {bs:List Bool} {k:Nat} (h:bs[k]? = some true):oF bs k=true:=by
 haveI:=(aaa.mp h).1
 unfold oF
 rw [if_pos ⟨by exact b9 0xf0980,by exact cu 0x1f0f910111 this⟩]
 simp [h]
noncomputable def dE (F:Vw) (l:List Int):Vw:=λx=>if x∈l then none else F x
noncomputable def F5 (p:Int) (F:Vw) (g z:Int) (bs:List Bool):Vw :=
 if bs.count true=0/\1<((o7 p (cS F g (some (z,bs)))).filter (eW (cS F g (some (z,bs))) z)).length then cS (cS F g (some (z,bs))) g none else cS F g (some (z,bs))
theorem Cc (ri:Nat) (r:Rm) (g:Int):∀i∈Rm.own ri { r with ss:=gX r.ss g },i∈r.own ri:=λi hi=>by
 unfold Rm.own at hi ⊢
 have sub:∀s∈gX r.ss g,s∈r.ss:=λs hs=>(aaz.mp hs).1
 simp at hi ⊢
 rcases hi with h | h | h | ⟨s,hs,rfl⟩ | ⟨s,hs,rfl⟩
 ·exact .inl h
 ·exact .inr (.inl h)
 ·exact .inr (.inr (.inl h))
 ·exact .inr (.inr (.inr (.inl ⟨s,sub s hs,rfl⟩)))
 ·exact .inr (.inr (.inr (.inr ⟨s,sub s hs,rfl⟩)))
section
variable {H:Hp} {ri:Nat} {r:Rm} (hR:aI H ri r) (hO:r.Ok)
include hR hO
theorem CD {g z:Int} {s:bH} (hf:dL r.ss g=some s) (hz:s.sz=z) {k:Nat} (hk:s.bs[k]? = some true):hU [.inst "Room" ri,.int (g*r.len+k*z)] H= .ok (.tup [.inst "Shelf" s.sh,.int k]) H:=by
 obtain ⟨hs,e⟩:=aS hf
 subst hz e
 haveI hl:=(aaa.mp hk).1
 have hsz:=hO.szpos hs
 haveI hlen:=hO.len
 obtain ⟨u1,u2,u3,u4⟩:=nU hO hs (k:=k) (by exact b9 0xf0980) (by exact cu 0x1f0f910111 hl) (j:=0) ∅ (by exact bY 0x99019811 hsz.1)
 obtain ⟨d1,d2⟩:=Jy (q:=s.pg) (b:=r.len) (r:=k*s.sz) (by exact u4) (by exact pD 0x1091090c911 u3)
 obtain ⟨d3,d4⟩:=I7 (q:=k) (b:=s.sz) (by exact bY 0x99019811 hsz.1)
 have hS:=hR.shelf s hs
 have n1:r.len≠0:=by exact λx9=>bY 0x9096090a1019812 hlen.1 x9
 have n2:s.sz≠0:=by exact λx9=>bY 0x9096090a1019812 hsz.1 x9
 haveI hh:=Hj hS (hO.bslen hs) k
 rw [tV hk] at hh
 obtain ⟨l0,e0,a1,a2⟩:∃l0,a9 ["self", "place"] [.inst "Room" ri,.int (s.pg*r.len+k*s.sz)]=l0/\l0 "self" = some (.inst "Room" ri)/\l0 "place" = some (.int (s.pg*r.len+k*s.sz)):=⟨_,rfl,rfl,rfl⟩
 haveI hsh:∀l,d5 "Shelf" "has" (.inst "Shelf" s.sh) ⟨l,H⟩= .ok () ⟨l,H⟩:=λl=>eY hS.ob (Fh _ _ _)
 refine bg (m:=pR) (q:=⟨upd (upd (upd l0 "page" (.int s.pg)) "shelf" (.inst "Shelf" s.sh)) "step" (.int (k*s.sz)),H⟩) rfl ?_
 rw [e0]
 have rs:=λl=>(sd hR hs l).1
 refine ak (q':=⟨upd l0 "page" (.int s.pg),H⟩) (by exists a1,a2,jp hR,Bf hR,fN n1 d1) ?_
 have b1:upd l0 "page" (.int s.pg) "self" = some (.inst "Room" ri):=ah rfl ∅ a1
 haveI hin:=λl=>E8 hR s.pg l
 rw [hf] at hin
 refine ak (q':=⟨upd l0 "page" (.int s.pg),H⟩) (by exists b1,bw hR,hin) ?_
 refine ak (q':=⟨upd (upd l0 "page" (.int s.pg)) "shelf" (.inst "Shelf" s.sh),H⟩) (by exists b1,bw hR,dh hR hf) ?_
 haveI c1:upd (upd l0 "page" (.int s.pg)) "shelf" (.inst "Shelf" s.sh) "self" = some (.inst "Room" ri):=ah rfl ∅ a1
 haveI c2:upd (upd l0 "page" (.int s.pg)) "shelf" (.inst "Shelf" s.sh) "place" = some (.int (s.pg*r.len+k*s.sz)):=ah rfl ∅ a2
 refine ak (q':=⟨upd (upd (upd l0 "page" (.int s.pg)) "shelf" (.inst "Shelf" s.sh)) "step" (.int (k*s.sz)),H⟩) (by exists c1,c2,jp hR,Bf hR,dX n1 d2) ?_
 obtain ⟨l3,el3⟩:∃l3,upd (upd (upd l0 "page" (.int s.pg)) "shelf" (.inst "Shelf" s.sh)) "step" (.int (k*s.sz))=l3:=⟨_,rfl⟩
 rw [el3]
 have g1:l3 "shelf" = some (.inst "Shelf" s.sh):=yC el3 ∅
 have g2:l3 "step" = some (.int (k*s.sz)):=ay el3
 refine ak (q':=⟨l3,H⟩) ?_ ?_
 ·exists g1,g2,rs,dX n2 d4,uG 0 0,hsh,fN n2 d3,hh
 ·exists g1,g2,rs,fN n2 d3
theorem CE {g z:Int} {s:bH} (hf:dL r.ss g=some s) (hz:s.sz=z) {k:Nat} (hk:s.bs[k]? = some true) {j:Int} (h0:0<=j) (h1:j<z):ji [.inst "Room" ri,.int (g*r.len+k*z),.int j] H= .ok (.int (g*r.len+k*z+j)) H:=by
 haveI hv:=CD hR hO hf hz hk
 haveI rs:=λl=>(sd hR (aS hf).1 l).1
 rw [hz] at rs
 obtain ⟨l0,e0,a1,a2,a3⟩:∃l0,a9 ["self", "place", "step"] [.inst "Room" ri,.int (g*r.len+k*z),.int j]=l0/\l0 "self" = some (.inst "Room" ri)/\l0 "place" = some (.int (g*r.len+k*z))/\l0 "step" = some (.int j):=⟨_,rfl,rfl,rfl,rfl⟩
 refine bz (upd l0 "shelf" (.inst "Shelf" s.sh)) λl1 el1=> ?_
 haveI b1:l1 "shelf" = some (.inst "Shelf" s.sh):=ay el1
 haveI b2:l1 "place" = some (.int (g*r.len+k*z)):=ah el1 ∅ a2
 have b3:l1 "step" = some (.int j):=ah el1 ∅ a3
 refine bg (m:=rO) (q:=⟨l1,H⟩) rfl ?_
 rw [e0]
 haveI it:∀q,aJ (.tup [.inst "Shelf" s.sh,.int k]) (.int 0) q= .ok (.inst "Shelf" s.sh) q:=λq=>rfl
 refine ak (q':=⟨l1,H⟩) (by exists a1,a2,bA hR (f := "found") ⟨by decide,by decide,by decide⟩,hv,it,el1) ?_
 refine ak (q':=⟨l1,H⟩) ?_ (by exists b2,b3)
 haveI d0:decide ((0:Int)<=j)=true:=decide_eq_true h0
 haveI d1:decide (j<z)=true:=decide_eq_true h1
 exists b3,d0,b1,rs,d1
theorem IB {g z:Int} {s:bH} (hf:dL r.ss g=some s) (hz:s.sz=z) {k:Nat} (hk:s.bs[k]? = some true) {j:Int} (h0:0<=j) (h1:j<z) :
  ∃v,mE [.inst "Room" ri,.int (g*r.len+k*z),.int j] H= .ok (.int v) H/\r.cs[(g*r.len+k*z+j).toNat]? = some v:=by
 haveI hc:=CE hR hO hf hz hk h0 h1
 obtain ⟨hs,e⟩:=aS hf
 haveI hl:=(aaa.mp hk).1
 obtain ⟨u1,u2,_⟩:=nU hO hs (k:=k) (by exact b9 0xf0980) (by exact cu 0x1f0f910111 hl) h0 (by rw [hz];exact h1)
 rw [e,hz] at u1 u2
 obtain ⟨v,v1,v2⟩:=Co hR hO u1 u2
 refine ⟨v,?_,v1⟩
 obtain ⟨l0,e0,a1,a2,a3⟩:∃l0,a9 ["self", "place", "step"] [.inst "Room" ri,.int (g*r.len+k*z),.int j]=l0/\l0 "self" = some (.inst "Room" ri)/\l0 "place" = some (.int (g*r.len+k*z))/\l0 "step" = some (.int j):=⟨_,rfl,rfl,rfl,rfl⟩
 refine bg (m:=rR) (q:=⟨l0,H⟩) rfl ?_
 rw [e0]
 exists a1,a2,a3,qh hR,bA hR (f := "cell") ⟨by decide,by decide,by decide⟩,hc,v2
theorem GO {g z:Int} {s:bH} (hf:dL r.ss g=some s) (hz:s.sz=z) {k:Nat} (hk:s.bs[k]? = some true) {j:Int} (h0:0<=j) (h1:j<z) (x:Int) :
  ∃H',A5 (hX [.inst "Room" ri,.int (g*r.len+k*z),.int j,.int x] H= .ok .none H') (aI H' ri { r with cs:=r.cs.set (g*r.len+k*z+j).toNat x }) (Rm.Ok { r with cs:=r.cs.set (g*r.len+k*z+j).toNat x }) (cA (r.own ri) H H') ((r.cs.set (g*r.len+k*z+j).toNat x)[(g*r.len+k*z+j).toNat]? = some x):=by
 haveI hc:=CE hR hO hf hz hk h0 h1
 obtain ⟨hs,e⟩:=aS hf
 haveI hl:=(aaa.mp hk).1
 obtain ⟨u1,u2,_⟩:=nU hO hs (k:=k) (by exact b9 0xf0980) (by exact cu 0x1f0f910111 hl) h0 (by rw [hz];exact h1)
 rw [e,hz] at u1 u2
 haveI hst:=yd hR hO (v:=x) u1 u2
 refine ⟨H.set r.c (.list ((r.cs.set (g*r.len+k*z+j).toNat x).map V.int)),?_,aI.setCs hR hO _,Rm.Ok.setCs hR hO (by simp),cA.set (EO ri r),aaA (by exact fu [_,_] [_,_,_] 0x11210cc1fa10f210cc912 u2 (aah u1))⟩
 obtain ⟨l0,e0,a1,a2,a3,a4⟩:∃l0,a9 ["self", "place", "step", "number"] [.inst "Room" ri,.int (g*r.len+k*z),.int j,.int x]=l0/\l0 "self" = some (.inst "Room" ri)/\l0 "place" = some (.int (g*r.len+k*z))/\l0 "step" = some (.int j)/\l0 "number" = some (.int x):=⟨_,rfl,rfl,rfl,rfl,rfl⟩
 refine nJ (m:=pT) (q:=⟨l0,_⟩) rfl ?_
 rw [e0]
 exists a1,a2,a3,a4,qh hR,bA hR (f := "cell") ⟨by decide,by decide,by decide⟩,hc,hst
theorem Fa {g:Int} {s:bH} (hf:dL r.ss g=some s) (l:bp):fV (.ref r.d) ⟨l,H⟩= .ok false ⟨l,H⟩/\rI (.ref r.d) (.int g) ⟨l,H⟩= .ok (.inst "Shelf" s.sh) ⟨l,H.set r.d (.dict (xD g (r.ss.map bH.ent)))⟩:=by
 haveI:=hO.few
 haveI h1:(r.ss.map bH.ent).length<=1000000:=by simp;exact id (b9 0xf4240a00000028a0011 this)
 exact ⟨by rw [xZ,hR.racks],by unfold rI;dsimp only;rw [hR.racks];dsimp only;rw [if_pos h1,iA,hf];rfl⟩
theorem Al {g z:Int} {s:bH} (hf:dL r.ss g=some s) (hz:s.sz=z) {k:Nat} (hk:s.bs[k]? = some true):∃r' H',A7 (eA [.inst "Room" ri,.int (g*r.len+k*z)] H= .ok .none H') (aI H' ri r') r'.Ok (r.Sm r') (look r'.ss=F5 r.p (look r.ss) g z (s.bs.set k false)) (cA (r.own ri) H H') (∀i∈r'.own ri,i∈r.own ri):=by
 refine nH λG kG=> ?_
 haveI hv:=CD hR hO hf hz hk
 obtain ⟨hs,e⟩:=aS hf
 subst hz e
 obtain ⟨l0,e0,a1,a2⟩:∃l0,a9 ["self", "place"] [.inst "Room" ri,.int (s.pg*r.len+k*s.sz)]=l0/\l0 "self" = some (.inst "Room" ri)/\l0 "place" = some (.int (s.pg*r.len+k*s.sz)):=⟨_,rfl,rfl,rfl⟩
 have hS:=hR.shelf s hs
 haveI hg:=Iw hS (hO.bslen hs) k
 rw [if_pos (tV hk)] at hg
 have R1:=aI.setBs hR hO hs (s.bs.set k false)
 have O1:=Rm.Ok.setBs hR hO hs (bs:=s.bs.set k false) (by simp)
 have L1:=pi hf (s.bs.set k false)
 refine bz ({ r with ss:=setBs r.ss s.pg (s.bs.set k false) }) λr1 er1=> ?_
 have ess:r1.ss=setBs r.ss s.pg (s.bs.set k false):=by rw [<- er1]
 haveI hown:r1.own ri=r.own ri:=by rw [<- er1];unfold Rm.own;dsimp only;rw [uQ,nS]
 have hsm:r.Sm r1:=by rw [<- er1];exact Rm.Sm.ss r _
 rw [er1] at R1 O1
 rw [<- ess] at L1
 refine bz (H.set s.t (.list ((s.bs.set k false).map V.bool))) λH1 e1=> ?_
 haveI C1:cA (r.own ri) H H1:=by rw [<- e1];exact cA.set (EQ ri hs)
 rw [show (H.set s.t (.list ((s.bs.set ((k:Nat):Int).toNat false).map V.bool)))=H1 by rw [Int.toNat_natCast];exact e1] at hg
 rw [e1] at R1
 obtain ⟨s1,hs1,z1,b1⟩:∃s1,dL r1.ss s.pg=some s1/\s1.sz=s.sz/\s1.bs=s.bs.set k false:=by
  obtain ⟨s1,h1,h2,h3⟩:=bB (ss:=r1.ss) (g:=s.pg) (v:=(s.sz,s.bs.set k false)) (by rw [L1,bQ])
  exact ⟨s1,h1,h2,h3⟩
 have sh1:s1.sh=s.sh:=by
  haveI:=pf (λa=>if a.pg=s.pg then { a with bs:=s.bs.set k false } else a) (λa=>by split<;>rfl) r.ss s.pg
  rw [ess] at hs1
  unfold setBs at hs1
  rw [this,hf] at hs1
  simp at hs1
  rw [<- hs1]
 obtain ⟨hm1,hp1⟩:=aS hs1
 obtain ⟨n,H2,he,p2,x2⟩:=yE R1 O1
 rw [O1.empt,L1] at x2
 have hps:r1.p=r.p:=hsm.p
 refine bz (cS (look r.ss) s.pg (some (s.sz,s.bs.set k false))) λF1 eF1=> ?_
 rw [hps,eF1] at x2
 rw [eF1] at L1
 haveI it0:∀q,aJ (.tup [.inst "Shelf" s.sh,.int k]) (.int 0) q= .ok (.inst "Shelf" s.sh) q:=λq=>rfl
 haveI it1:∀q,aJ (.tup [.inst "Shelf" s.sh,.int k]) (.int 1) q= .ok (.int k) q:=λq=>rfl
 refine bz (upd (upd l0 "both" (.tup [.inst "Shelf" s.sh,.int k])) "shelf" (.inst "Shelf" s.sh)) λl2 el2=> ?_
 have c1:l2 "self" = some (.inst "Room" ri):=ly el2 ∅ ∅ a1
 haveI c2:l2 "both" = some (.tup [.inst "Shelf" s.sh,.int k]):=yC el2 ∅
 have c3:l2 "shelf" = some (.inst "Shelf" s.sh):=ay el2
 haveI t1:iX ⟨l0,H⟩= .ok .next ⟨upd l0 "both" (.tup [.inst "Shelf" s.sh,.int k]),H⟩:=by
  exists a1,a2,bA hR (f := "found") ⟨by decide,by decide,by decide⟩,hv
 haveI t2:iY ⟨upd l0 "both" (.tup [.inst "Shelf" s.sh,.int k]),H⟩= .ok .next ⟨l2,H⟩:=by
  exists it0,el2
 haveI mg:∀l,d5 "Shelf" "give" (.inst "Shelf" s.sh) ⟨l,H⟩= .ok () ⟨l,H⟩:=λl=>eY hS.ob rfl
 haveI t3:iZ ⟨l2,H⟩= .ok .next ⟨l2,H1⟩:=by
  exists c2,c3,mg,it1,hg
 haveI hc:∃H',fh ⟨l2,H1⟩= .ok (.ref H'.length) ⟨l2,H'++[.list ((o7 r.p F1).filterMap λg=>if eW F1 s.sz g then some (V.int g) else none)]⟩/\H2<+:H':=by
  unfold fh
  refine fq (n:=n) (ks:=o7 r.p F1) ?_ x2 ?_ (λg=>if eW F1 s.sz g then some (V.int g) else none) λg hg Hx hp=> ?_
  ·exists c1,bA R1 (f := "empty_pages") ⟨by decide,by decide,by decide⟩,he
   exact dJ x2
  ·haveI h1:(o7 r.p F1).length<=(bf r.p).length:=aao (List.length_filter_le _ _) (List.length_filter_le _ _)
   have h2:=hO.p
   unfold bf at h1;simp at h1;exact id (jF 0xf4240a0001fa11001000028a0813 h2.2 h1 (aah (bY 0x98019811 h2.1)))
  ·haveI hgk:=(iJ.mp (aaz.mp hg).1).2
   obtain ⟨v,hv⟩:=aaT.mp hgk
   obtain ⟨s',hs',z',_⟩:=bB (ss:=r1.ss) (v:=v) (by rw [L1];exact hv)
   have hRx:=R1.pre (p2.trans hp)
   have rs1:=λl=>(sd hRx (aS hs').1 l).1
   have rs2:=λl=>(sd hRx hm1 l).1
   rw [sh1,z1] at rs2
   have b1:upd (gn ["shelf", "self"] l2) "page" (.int g) "self" = some (.inst "Room" ri):=gh ∅ ∅ c1
   have b2:upd (gn ["shelf", "self"] l2) "page" (.int g) "shelf" = some (.inst "Shelf" s.sh):=gh ∅ ∅ c3
   refine ⟨Hx,?_,aam _⟩
   haveI hz':eW F1 s.sz g=decide (s'.sz=s.sz):=by unfold eW;rw [hv,z']
   rw [hz']
   cases hb:decide (s'.sz=s.sz) with
   | true=>exact cZ (H2:=Hx) (by exists b1,b2,bw hRx,dh hRx hs',rs1,rs2,hb) (g_get (nv _ _ _))
   | false=>exact qr (by exists b1,b2,bw hRx,dh hRx hs',rs1,rs2,hb)
 obtain ⟨H3,hc,p3⟩:=hc
 rw [fL] at hc
 refine bz ((o7 r.p F1).filter (eW F1 s.sz)) λot eot=> ?_
 rw [eot] at hc
 haveI t4:i9 ⟨l2,H1⟩= .ok .next ⟨upd l2 "others" (.ref H3.length),H3++[.list (ot.map V.int)]⟩:=by exists hc
 refine bz (upd l2 "others" (.ref H3.length)) λl4 el4=> ?_
 haveI d1:l4 "self" = some (.inst "Room" ri):=ah el4 ∅ c1
 have d2:l4 "shelf" = some (.inst "Shelf" s.sh):=ah el4 ∅ c3
 have d3:l4 "others" = some (.ref H3.length):=ay el4
 refine bz (H3++[O.list (ot.map V.int)]) λH4 e4=> ?_
 rw [el4,e4] at t4
 have p4:H1<+:H4:=(p2.trans p3).trans ⟨_,e4⟩
 have R4:=R1.pre p4
 obtain ⟨mo,co⟩:=uJ R4 O1 hm1 l4
 rw [sh1,b1] at co
 rw [sh1] at mo
 refine bz (H4++[O.list (List.replicate ((s.bs.set k false).count true) (V.bool true))]) λH5 e5=> ?_
 rw [e5] at co
 have p5:H4<+:H5:=⟨_,e5⟩
 have R5:=R4.pre p5
 haveI hlo:ot.length<=40:=by
  haveI h1:ot.length<=(bf r.p).length:=by rw [<- eot];exact aao (List.length_filter_le _ _) (aao (List.length_filter_le _ _) (List.length_filter_le _ _))
  have h2:=hO.p
  unfold bf at h1;simp at h1;exact id (jF 0x28a0001fa11001000028a0813 h2.2 h1 (aah (bY 0x98019811 h2.1)))
 have hln:dY [.ref H3.length] ⟨l4,H5⟩= .ok (.int ot.length) ⟨l4,H5⟩:=by
  haveI:H5[H3.length]? = some (.list (ot.map V.int)):=aA p5 (by rw [<- e4];simp)
  rw [cE this (by simp;exact id (b9 0xf4240a01000028a0011 hlo))];simp
 haveI rp:=λl=>(sd R5 hm1 l).2
 rw [sh1,hp1] at rp
 obtain ⟨k1,k2⟩:=Fa R5 O1 hs1 l4
 have hw:Rm.own ri r1=Rm.own ri r:=hown
 have Cf:cA (r.own ri) H H5:=C1.trans (cA.pre (p4.trans p5))
 have dc:decide ((((s.bs.set k false).count true:Nat):Int)=0)=decide ((s.bs.set k false).count true=0):=decide_eq_decide.mpr EL
 have dl:decide (((ot.length:Nat):Int)>1)=decide (1<ot.length):=decide_eq_decide.mpr (Em (b:=1))
 have main:∀q,ja ⟨l4,H4⟩= .ok .next q->eA [.inst "Room" ri,.int (s.pg*r.len+k*s.sz)] H= .ok .none q.H:=λq hq =>
  nJ (m:=jW) (q:=q) rfl (by rw [e0];exact ak t1 (ak t2 (ak t3 (ak t4 hq))))
 unfold F5 at kG
 rw [eF1,eot] at kG
 by_cases h1:(s.bs.set k false).count true=0
 ·by_cases h2:1<ot.length
  ·rw [if_pos ⟨h1,h2⟩] at kG
   refine kG ⟨{ r1 with ss:=gX r1.ss s.pg },_,main ⟨l4,_⟩ ?_,aI.del R5 O1 s.pg,Rm.Ok.del R5 O1 s.pg,hsm.trans (Rm.Sm.ss r1 _),?_,Cf.trans (cA.set (by rw [<- hw];exact EP ri r1)),λi hi=>hw▸Cc ri r1 s.pg i hi⟩
   ·exists d1,d2,d3,mo,co,dc,decide_eq_true h1,hln,dl,decide_eq_true h2,bw R5,k1,rp,k2
   ·show look (gX r1.ss s.pg)=_
    rw [uk,L1]
  ·rw [if_neg λh=>h2 h.2] at kG
   refine kG ⟨r1,H5,main ⟨l4,H5⟩ ?_,R5,O1,hsm,L1,Cf,λi hi=>hw▸hi⟩
   exists d1,d2,d3,mo,co,dc,decide_eq_true h1,hln,dl,decide_eq_false h2
 ·rw [if_neg λh=>h1 h.1] at kG
  refine kG ⟨r1,H5,main ⟨l4,H5⟩ ?_,R5,O1,hsm,L1,Cf,λi hi=>hw▸hi⟩
  exists d1,d2,d3,mo,co,dc,decide_eq_false h1
end
theorem jV (p:Int) (hp:p<=40) (F:Vw):(cn p F).length<=40:=by
 haveI h1:(cn p F).length<=(bf p).length:=List.length_filter_le _ _
 unfold bf at h1;simp at h1;exact aao h1 (Int.toNat_le.mpr hp)
theorem Af (p:Int) (hp:p<=40) (F:Vw) (z:Int):(bh p F z).length<=40:=aao (List.length_filter_le _ _) (jV p hp F)
theorem Ec (p:Int) (hp:p<=40) (F:Vw):(o7 p F).length<=40:=aao (List.length_filter_le _ _) (jV p hp F)
theorem uf (p:Int) (F:Vw):(cn p F).Nodup:=mM ((eq p).filter _)
theorem mK {p:Int} {F:Vw} {g:Int} (h:g∈cn p F):∃v,F g=some v:=aaT.mp (iJ.mp h).2
theorem qi (F:Vw):dE F []=F:=by funext x;simp [dE]
theorem Dp (F:Vw) (g:Int) (l:List Int):dE (cS F g none) l=dE F (g::l):=by
 funext x
 unfold dE
 by_cases h1:x∈l
 ·simp [h1]
 ·by_cases h2:x=g<;>simp [h1,h2,cS]
def Hw (H:Hp) (ri:Nat) (r:Rm) (Fz:Vw) (ks:List Int) (q:S):Prop:= ∃r',aI q.H ri r'/\r'.Ok/\r.Sm r'/\dE (look r'.ss) ks=Fz/\ks.Nodup/\(∀g∈ks,∃v,look r'.ss g=some v)/\cA (r.own ri) H q.H/\(∀i∈r'.own ri,i∈r.own ri)/\r'.cs=r.cs
theorem Hw.pop {H:Hp} {ri:Nat} {r:Rm} {Fz:Vw} {g:Int} {ks:List Int} {l:bp} {Hq:Hp} (h:Hw H ri r Fz (g::ks) ⟨l,Hq⟩):∃v H',A5 (fV (.ref r.d) ⟨l,Hq⟩= .ok false ⟨l,Hq⟩) (rI (.ref r.d) (.int g) ⟨l,Hq⟩= .ok v ⟨l,H'⟩) (∀l',Hw H ri r Fz ks ⟨l',H'⟩) (aE "racks" (.inst "Room" ri) ⟨l,Hq⟩= .ok (.ref r.d) ⟨l,Hq⟩) (cA [r.d] Hq H'):=by
 obtain ⟨r',h1,h2,h3,h4,h5,h6,h7,h8,h9⟩:=h
 dsimp only at h1 h7
 obtain ⟨v,hv⟩:=h6 g (.head _)
 obtain ⟨s,hs,_⟩:=bB hv
 obtain ⟨k1,k2⟩:=Fa h1 h2 hs l
 rw [h3.d] at k1 k2
 rw [abd] at h5
 refine ⟨_,_,k1,k2,λl'=> ?_,by rw [bw h1,h3.d],cA.set (by simp)⟩
 rw [<- h3.d]
 refine ⟨{ r' with ss:=gX r'.ss g },aI.del h1 h2 g,Rm.Ok.del h1 h2 g,h3.trans (Rm.Sm.ss r' _),?_,h5.2,λx hx=> ?_,h7.trans (cA.set (by rw [h3.d];exact EP ri r)),λi hi=>h8 i (Cc ri r' g i hi),h9⟩
 ·rw [uk,Dp];exact h4
 ·obtain ⟨w,hw⟩:=h6 x (.tail _ hx)
  refine ⟨w,?_⟩
  haveI hne:x≠g:=λe=>h5.1 (e▸hx)
  rw [uk,du _ _ hne]
  exact hw
noncomputable def og (F:Vw) (g:Int):Option V:=match F g with | some v=>some (.tup [.int g,.int v.1,.int (v.2.count true)]) | none=>none
noncomputable def cU (len:Int) (F:Vw) (g:Int):List (Int×Int):=match F g with | some v=>(cc 0 v.2).map λk=>(g*len+k*v.1,v.1) | none=>[]
noncomputable def bj (p len:Int) (F:Vw):List (Int×Int):=(cn p F).flatMap (cU len F)
theorem eE:∀(bs:List Bool) (a:Nat) (k:Int),k∈cc a bs-> ∃j:Nat,k=((a+j:Nat):Int)/\bs[j]? = some true
 | [],_,_,h=>by cases h
 | true::r,a,k,h=>by
  rcases aai.mp (show k∈(a:Int)::cc (a+1) r from h) with rfl | h
  ·exact ⟨0,by simp,rfl⟩
  ·obtain ⟨j,h1,h2⟩:=eE r (a+1) k h
   exact ⟨j+1,by rw [h1];congr 1;exact id (aag (cu 0x191c0c1190cc00) (cu 0x1190cc191c0c00)),by simpa using h2⟩
 | false::r,a,k,h=>by
  obtain ⟨j,h1,h2⟩:=eE r (a+1) k h
  exact ⟨j+1,by rw [h1];congr 1;exact id (aag (cu 0x191c0c1190cc00) (cu 0x1190cc191c0c00)),by simpa using h2⟩
theorem gj:∀(bs:List Bool) (a:Int),(cc a bs).length=bs.count true
 | [],_=>rfl
 | true::r,a=>by rw [List.count_cons_self,<- gj r (a+1)];rfl
 | false::r,a=>by rw [List.count_cons_of_ne ∅,<- gj r (a+1)];rfl
section
variable {H:Hp} {ri:Nat} {r:Rm} (hR:aI H ri r) (hO:r.Ok)
include hR hO
theorem IF:∃r' H',A7 (mF [.inst "Room" ri] H= .ok (.int (o7 r.p (look r.ss)).length) H') (aI H' ri r') r'.Ok (r.Sm r') (look r'.ss=dE (look r.ss) (o7 r.p (look r.ss))) (cA (r.own ri) H H') (∀i∈r'.own ri,i∈r.own ri):=by
 obtain ⟨l0,e0,a1⟩:∃l0,a9 ["self"] [.inst "Room" ri]=l0/\l0 "self" = some (.inst "Room" ri):=⟨_,rfl,rfl⟩
 obtain ⟨n,H1,he,p1,x1⟩:=yE hR hO
 rw [hO.empt] at x1
 have R1:=hR.pre p1
 obtain ⟨em,eem⟩:∃em,o7 r.p (look r.ss)=em:=⟨_,rfl⟩
 rw [eem] at x1
 haveI t1:oP ⟨l0,H⟩= .ok .next ⟨upd l0 "pages" (.ref n),H1⟩:=by
  exists a1,bA hR (f := "empty_pages") ⟨by decide,by decide,by decide⟩,he
 obtain ⟨l1,el1⟩:∃l1,upd l0 "pages" (.ref n)=l1:=⟨_,rfl⟩
 rw [el1] at t1
 haveI b1:l1 "self" = some (.inst "Room" ri):=ah el1 ∅ a1
 have b2:l1 "pages" = some (.ref n):=ay el1
 haveI hnd:n≠r.d:=λe=>by rw [e,R1.racks] at x1;cases x1
 obtain ⟨q',hq,i1,ks,ek,i2,i3,i4⟩:=fM (g:=λH=>av (.ref n) H=some (em.map V.int)) (bd:=aL "page") (body:=om)
  (λrem q=>q.l "self" = some (.inst "Room" ri)/\ ∃ks:List Int,rem=ks.map V.int/\Hw H1 ri r (dE (look r.ss) em) ks q/\q.l "pages" = some (.ref n)/\q.H[n]? = some (.list (em.map V.int))) (λx rem q hI=>by
   obtain ⟨h1,ks,e,h2,h3,h4⟩:=hI
   obtain ⟨l,Hq⟩:=q
   dsimp only at h1 h3 h4
   cases ks with
   | nil=>simp at e
   | cons g ks =>
    obtain ⟨rfl,rfl⟩:x= .int g/\rem=ks.map V.int:=by simpa using e
    haveI h2':Hw H1 ri r (dE (look r.ss) em) (g::ks) ⟨upd l "page" (.int g),Hq⟩:=h2
    obtain ⟨v,H',k1,k2,k3,k4,k5⟩:=h2'.pop
    have c1:upd l "page" (.int g) "self" = some (.inst "Room" ri):=ah rfl ∅ h1
    have h4':=k5.get h4 (by simpa using hnd)
    refine ⟨⟨upd l "page" (.int g),H'⟩,?_,bX h4',c1,ks,rfl,k3 _,ah rfl ∅ h3,h4'⟩
    exists c1,k4,k1,k2) _ ⟨l1,H1⟩ ⟨b1,em,rfl,⟨r,R1,hO,Rm.Sm.rfl r,rfl,eem▸(uf _ _).filter _,λg hg=>mK (aaz.mp (eem▸hg:g∈o7 r.p (look r.ss))).1,cA.refl _ _,λi hi=>hi,rfl⟩,b2,x1⟩
 cases ks with
 | cons _ _=>simp at ek
 | nil =>
 obtain ⟨r',h1,h2,h3,h4,_,_,h7,h8,_⟩:=i2
 rw [qi] at h4
 haveI hlen:em.length<1000000:=by
  haveI:=Ec r.p hO.p.2 (look r.ss)
  rw [eem] at this;exact id (b9 0xf4240a01000028a0011 this)
 rw [eem]
 refine ⟨r',q'.H,bg (m:=rS) (q:=q') rfl ?_,h1,h2,h3,h4,(cA.pre p1).trans h7,h8⟩
 rw [e0]
 refine ak t1 (ak (q':=q') ?_ ?_)
 ·exact bq (bq (g_get b2) (dJ x1)) hq
 ·obtain ⟨l',H'⟩:=q'
  dsimp only at i3 i4
  haveI:=cE (l:=l') i4 (by simpa using hlen)
  rw [aad] at this
  exists i3,this
theorem Dy:∃n H',A4 (iC [.inst "Room" ri] H= .ok (.ref n) H') (H<+:H') (H.length<=n) (H'[n]? = some (.list ((cn r.p (look r.ss)).filterMap (og (look r.ss))))):=by
 obtain ⟨l0,e0,a1⟩:∃l0,a9 ["self"] [.inst "Room" ri]=l0/\l0 "self" = some (.inst "Room" ri):=⟨_,rfl,rfl⟩
 haveI hs0:=nP hR hO l0
 rw [hO.keys] at hs0
 obtain ⟨ks,eks⟩:∃ks,cn r.p (look r.ss)=ks:=⟨_,rfl⟩
 rw [eks] at hs0 ⊢
 haveI hkl:=jV r.p hO.p.2 (look r.ss)
 rw [eks] at hkl
 have x1:(H++[O.list (ks.map V.int)])[H.length]? = some (.list (ks.map V.int)):=by simp
 haveI hc:∃H',ga ⟨l0,H⟩= .ok (.ref H'.length) ⟨l0,H'++[.list (ks.filterMap (og (look r.ss)))]⟩/\H++[O.list (ks.map V.int)]<+:H':=by
  unfold ga
  refine fq (n:=H.length) (ks:=ks) ?_ x1 (by exact b9 0xf4240a00000028a0011 hkl) (og (look r.ss)) λg hg Hx hp=> ?_
  ·exists a1,bw hR,hs0
   exact dJ x1
  ·obtain ⟨v,hv⟩:=mK (eks▸hg:g∈cn r.p (look r.ss))
   obtain ⟨s,hs,z1,z2⟩:=bB hv
   have hm:=(aS hs).1
   have hRx:=hR.pre ((aav _ _).trans hp)
   have b1:upd (gn ["self"] l0) "page" (.int g) "self" = some (.inst "Room" ri):=gh ∅ ∅ a1
   obtain ⟨mo,co⟩:=uJ hRx hO hm (upd (gn ["self"] l0) "page" (.int g))
   haveI rs:=λl=>(sd hRx hm l).1
   haveI hE:og (look r.ss) g=some (.tup [.int g,.int s.sz,.int (s.bs.count true)]):=by unfold og;rw [hv,z1,z2]
   rw [hE]
   exact ⟨_,cZ (H2:=Hx) rfl (by exists b1,bw hRx,dh hRx hs,rs,mo,co),aav _ _⟩
 obtain ⟨H',hc,hp⟩:=hc
 have hp':H<+:H':=(aav _ _).trans hp
 refine ⟨H'.length,H'++[.list (ks.filterMap (og (look r.ss)))],bg (m:=mO) (q:=⟨l0,_⟩) rfl ?_,hp'.trans (aav _ _),hp'.length_le,by simp⟩
 rw [e0]
 exists hc
theorem Fu {s:bH} {g:Int} (hf:dL r.ss g=some s) {l:bp} (a1:l "self" = some (.inst "Room" ri)) (a2:l "shelf" = some (.inst "Shelf" s.sh)) :
  ∃H',fb ⟨l,H⟩= .ok (.ref H'.length) ⟨l,H'++[.list ((cU r.len (look r.ss) g).map aw)]⟩/\H<+:H':=by
 obtain ⟨hm,e⟩:=aS hf
 subst e
 have hS:=hR.shelf s hm
 have hb:=hO.bslen hm
 haveI hg:=FB hS hb
 haveI mg:∀l,d5 "Shelf" "gone" (.inst "Shelf" s.sh) ⟨l,H⟩= .ok () ⟨l,H⟩:=λl=>eY hS.ob rfl
 have x1:(H++[O.list ((cc 0 s.bs).map V.int)])[H.length]? = some (.list ((cc 0 s.bs).map V.int)):=by simp
 haveI hc:∃H',fb ⟨l,H⟩= .ok (.ref H'.length) ⟨l,H'++[.list ((cc 0 s.bs).filterMap λk=>some (aw (s.pg*r.len+k*s.sz,s.sz)))]⟩/\H++[O.list ((cc 0 s.bs).map V.int)]<+:H':=by
  unfold fb
  refine fq (n:=H.length) (ks:=cc 0 s.bs) ?_ x1 ?_ (λk=>some (aw (s.pg*r.len+k*s.sz,s.sz))) λk hk Hx hp=> ?_
  ·exists a2,mg,hg
   exact dJ x1
  ·rw [gj]
   haveI:s.bs.count true<=s.bs.length:=List.count_le_length
   exact id (cu 0xf4240a1001010003e8a0012 hb this)
  ·have hRx:=hR.pre ((aav _ _).trans hp)
   obtain ⟨j,rfl,hj⟩:=eE s.bs 0 k hk
   haveI hjl:=(aaa.mp hj).1
   have hpg:=hO.pg s hm
   haveI hpp:=hO.p
   haveI vb:=tD hRx (hRx.shelf s hm) ((0+j:Nat):Int) ⟨hpg.1,by exact pD 0x3e8a09000028a18110912 hpg.2 hpp.2⟩ ⟨by exact b9 0x9cf0980,by exact cu 0x3e8a109cf901110003e8a0012 hb hjl⟩
   haveI b1:upd (gn ["shelf", "self"] l) "slot" (.int ((0+j:Nat):Int)) "self" = some (.inst "Room" ri):=gh ∅ ∅ a1
   have b2:upd (gn ["shelf", "self"] l) "slot" (.int ((0+j:Nat):Int)) "shelf" = some (.inst "Shelf" s.sh):=gh ∅ ∅ a2
   haveI rs:=λl=>(sd hRx hm l).1
   exact ⟨Hx,cZ (H2:=Hx) rfl (by exists b1,b2,bA hRx (f := "begin") ⟨by decide,by decide,by decide⟩,vb,rs),aam _⟩
 obtain ⟨H',hc,hp⟩:=hc
 refine ⟨H',?_,(aav _ _).trans hp⟩
 rw [hc]
 haveI:((cc 0 s.bs).filterMap λk=>some (aw (s.pg*r.len+k*s.sz,s.sz)))=(cU r.len (look r.ss) s.pg).map aw:=by
  unfold cU look
  rw [hf]
  simp [Function.comp_def]
 rw [this]
theorem Fs (g:Int):(cU r.len (look r.ss) g).length<=1000:=by
 unfold cU
 split
 ·rename_i v hv
  obtain ⟨s,hs,_,hb⟩:=bB hv
  rw [aad,gj,<- hb]
  exact aao List.count_le_length (hO.bslen (aS hs).1)
 ·simp
theorem FD:∃n H',A4 (jz [.inst "Room" ri] H= .ok (.ref n) H') (H<+:H') (H.length<=n) (H'[n]? = some (.list ((bj r.p r.len (look r.ss)).map aw))):=by
 obtain ⟨l0,e0,a1⟩:∃l0,a9 ["self"] [.inst "Room" ri]=l0/\l0 "self" = some (.inst "Room" ri):=⟨_,rfl,rfl⟩
 obtain ⟨l1,el1⟩:∃l1,upd l0 "found" (.ref H.length)=l1:=⟨_,rfl⟩
 have b1:l1 "self" = some (.inst "Room" ri):=ah el1 ∅ a1
 haveI b2:l1 "found" = some (.ref H.length):=ay el1
 obtain ⟨H1,e1⟩:∃H1,H++[O.list []]=H1:=⟨_,rfl⟩
 have p1:H<+:H1:=⟨_,e1⟩
 have R1:=hR.pre p1
 haveI t1:lT ⟨l0,H⟩= .ok .next ⟨l1,H1⟩:=by
  exists el1,e1
 haveI hs0:=nP R1 hO l1
 rw [hO.keys] at hs0
 unfold bj
 obtain ⟨ks,eks⟩:∃ks,cn r.p (look r.ss)=ks:=⟨_,rfl⟩
 rw [eks] at hs0 ⊢
 haveI hkl:=jV r.p hO.p.2 (look r.ss)
 rw [eks] at hkl
 obtain ⟨H2,e2⟩:∃H2,H1++[O.list (ks.map V.int)]=H2:=⟨_,rfl⟩
 have p2:H1<+:H2:=⟨_,e2⟩
 rw [e2] at hs0
 have x2:H2[H1.length]? = some (.list (ks.map V.int)):=by rw [<- e2];simp
 obtain ⟨q',hq,ys,n,acc,ey,_,i1,i2,i3,i4,i5,i6,i7⟩:=fM (g:=λH=>av (.ref H1.length) H=some (ks.map V.int)) (bd:=aL "page") (body:=lF)
  (λrem q=> ∃(ys:List Int) (n:Nat) (acc:List (Int×Int)),rem=ys.map V.int/\(∀y∈ys,y∈ks)/\q.l "self" = some (.inst "Room" ri)/\q.l "found" = some (.ref n)/\H2<+:q.H/\H.length<=n/\q.H[n]? = some (.list (acc.map aw)) /\
   acc++ys.flatMap (cU r.len (look r.ss))=ks.flatMap (cU r.len (look r.ss))/\acc.length+ys.length*1000<=50000) (λx rem q hI=>by
   obtain ⟨ys,n,acc,e,h1,h2,h3,h4,h5,h6,h7,h8⟩:=hI
   obtain ⟨l,Hq⟩:=q
   dsimp only at h2 h3 h4 h6
   cases ys with
   | nil=>simp at e
   | cons g ys =>
    obtain ⟨rfl,rfl⟩:x= .int g/\rem=ys.map V.int:=by simpa using e
    obtain ⟨v,hv⟩:=mK (eks▸h1 g (.head _):g∈cn r.p (look r.ss))
    obtain ⟨s,hs,_⟩:=bB hv
    have hRq:=hR.pre ((p1.trans p2).trans h4)
    obtain ⟨l2,el2⟩:∃l2,upd (upd l "page" (.int g)) "shelf" (.inst "Shelf" s.sh)=l2:=⟨_,rfl⟩
    haveI c0:upd l "page" (.int g) "self" = some (.inst "Room" ri):=ah rfl ∅ h2
    have c1:l2 "self" = some (.inst "Room" ri):=ly el2 ∅ ∅ h2
    haveI c2:l2 "shelf" = some (.inst "Shelf" s.sh):=ay el2
    haveI c3:l2 "found" = some (.ref n):=ly el2 ∅ ∅ h3
    obtain ⟨H3,hc,p3⟩:=Fu hRq hO hs c1 c2
    have hl:=Fs hR hO g
    obtain ⟨H4,e4⟩:∃H4,H3++[O.list ((cU r.len (look r.ss) g).map aw)]=H4:=⟨_,rfl⟩
    rw [e4] at hc
    have p4:Hq<+:H4:=p3.trans ⟨_,e4⟩
    haveI y1:H4[n]? = some (.list (acc.map aw)):=aA p4 h6
    haveI y2:H4[H3.length]? = some (.list ((cU r.len (look r.ss) g).map aw)):=by rw [<- e4];simp
    haveI had:dq (.ref n) (.ref H3.length) ⟨l2,H4⟩= .ok (.ref H4.length) ⟨l2,H4++[.list ((acc++cU r.len (look r.ss) g).map aw)]⟩:=by
     haveI:(acc.map aw).length+((cU r.len (look r.ss) g).map aw).length<=1000000:=by simp at h8 ⊢;exact id (lh 0xf4240a20c00003e8a20100c350a10c012 h8 hl)
     rw [List.map_append];exact I2 y1 y2 this
    have p5:H2<+:H4++[O.list ((acc++cU r.len (look r.ss) g).map aw)]:=(h4.trans p4).trans (aav _ _)
    refine ⟨⟨upd l2 "found" (.ref H4.length),H4++[.list ((acc++cU r.len (look r.ss) g).map aw)]⟩,?_,bX (aA p5 x2),ys,H4.length,acc++cU r.len (look r.ss) g,rfl,λy hy=>h1 y (.tail _ hy),ah rfl ∅ c1,by simp [upd],p5,((p1.trans p2).trans (h4.trans p4)).length_le,by simp,?_,?_⟩
    ·rw [rZ,zQ]
     refine ak (q':=⟨l2,Hq⟩) ?_ ?_
     ·exists c0,bw hRq,dh hRq hs,el2
     ·exists c3,hc,had
    ·rw [<- h7];simp
    ·simp at h8 ⊢;exact aao (by rw [Nat.add_assoc];exact Nat.add_le_add_left (aao (Nat.add_le_add_right hl _) (Nat.le_of_eq (by rw [Nat.succ_mul,Nat.add_comm]))) _) h8) _ ⟨l1,H2⟩ ⟨ks,H.length,[],rfl,λy hy=>hy,b1,b2,aam _,aaK _,aA p2 (by rw [<- e1];simp),by simp,by simp;exact aao (Nat.mul_le_mul_right 1000 hkl) ∅⟩
 cases ys with
 | cons _ _=>simp at ey
 | nil =>
 simp at i6
 refine ⟨n,q'.H,bg (m:=oI) (q:=q') rfl ?_,(p1.trans p2).trans i3,i4,by rw [<- i6];exact i5⟩
 rw [e0]
 refine ak t1 (ak (q':=q') ?_ ?_)
 ·exists b1,bw R1,hs0,dJ x2;exact hq
 ·obtain ⟨l',H'⟩:=q'
  dsimp only at i2
  exists i2
end
theorem Cl {H:Hp} {l:bp} {n:Nat} {ks:List Int} (h:H[n]? = some (.list (ks.map V.int))) (hl:ks.length<=1000000):yq [.ref n] ⟨l,H⟩= .ok (.int (dn ks)) ⟨l,H⟩:=by
 unfold yq;dsimp only;rw [h];dsimp only;rw [kK];exact if_pos hl
noncomputable def zK (F:Vw) (g:Int):Bool:=match F g with | some v=>(bn v.2).isSome | none=>false
theorem qf {F:Vw} {g:Int} (h:zK F g=true):∃v j,F g=some v/\bn v.2=some j:=by
 unfold zK at h
 split at h
 ·rename_i v hv
  obtain ⟨j,hj⟩:=aaT.mp h
  exact ⟨v,j,hv,hj⟩
 ·cases h
noncomputable def jX (len z:Int) (stay:List Int) (F:Vw) (it:Int×Int):(Int×Int)×Vw:=match stay.find? (zK F) with
 | some h=>(match F h with
  | some v=>(match bn v.2 with
   | some j=>((it.1*len+it.2*z,h*len+(j:Nat)*z),cS F h (some (z,v.2.set j true)))
   | none=>((0,0),F))
  | none=>((0,0),F))
 | none=>((0,0),F)
theorem tx {len z:Int} {stay:List Int} {F:Vw} (it:Int×Int) {h:Int} {v:Int×List Bool} {j:Nat} (h1:stay.find? (zK F)=some h) (h2:F h=some v) (h3:bn v.2=some j) :
  jX len z stay F it=((it.1*len+it.2*z,h*len+(j:Nat)*z),cS F h (some (z,v.2.set j true))):=by
 unfold jX;rw [h1];dsimp only;rw [h2];dsimp only;rw [h3]
noncomputable def cX (len z:Int) (stay:List Int):Vw->List (Int×Int)->List (Int×Int)×Vw
 | F,[]=>([],F)
 | F,it::r=>((jX len z stay F it).1::(cX len z stay (jX len z stay F it).2 r).1,(cX len z stay (jX len z stay F it).2 r).2)
theorem wN (len z:Int) (stay:List Int) (F:Vw):cX len z stay F []=([],F):=rfl
theorem pn (len z:Int) (stay:List Int) (F:Vw) (it:Int×Int) (r:List (Int×Int)):cX len z stay F (it::r)=((jX len z stay F it).1::(cX len z stay (jX len z stay F it).2 r).1,(cX len z stay (jX len z stay F it).2 r).2):=rfl
noncomputable def A9 (len z:Int) (stay:List Int):Vw->List (Int×Int)->Prop
 | _,[]=>True
 | F,it::r=>(stay.find? (zK F)).isSome=true/\A9 len z stay (jX len z stay F it).2 r
noncomputable def G5 (F:Vw) (g:Int):Nat:=match F g with | some v=>v.2.count false | none=>0
noncomputable def kI (F:Vw) (stay:List Int):Nat:=(stay.map (G5 F)).sum
theorem mG:∀ {bs:List Bool} {j:Nat},bn bs=some j->(bs.set j true).count false+1=bs.count false
 | [],_,h=>by cases h
 | false::r,j,h=>by
  cases h
  rw [List.set_cons_zero,List.count_cons_of_ne ∅,List.count_cons_self]
 | true::r,j,h=>by
  change (bn r).map (· + 1)=some j at h
  cases hf:bn r with
  | none=>rw [hf] at h;cases h
  | some i =>
   rw [hf] at h
   cases h
   rw [List.set_cons_succ,List.count_cons_of_ne ∅,List.count_cons_of_ne ∅]
   exact mG hf
theorem pe:∀ {bs:List Bool},0<bs.count false->(bn bs).isSome=true
 | [],h=>by simp at h
 | false::r,h=>rfl
 | true::r,h=>by
  rw [List.count_cons_of_ne ∅] at h
  rw [bn,Option.isSome_map]
  exact pe h
theorem D8:∀bs:List Bool,bs.count true+bs.count false=bs.length
 | []=>rfl
 | true::r=>by rw [List.count_cons_self,List.count_cons_of_ne ∅,aas];have:=D8 r;exact id (aag (lh 0x192c1190cc0210c211 this) (lh 0x1190cc192c0210c311 this))
 | false::r=>by rw [List.count_cons_self,List.count_cons_of_ne ∅,aas];have:=D8 r;exact id (aag (lh 0x192c191c0c0210c211 this) (lh 0x191c0c192c0210c311 this))
theorem wE {F:Vw}:∀ {stay:List Int},0<kI F stay->(stay.find? (zK F)).isSome=true
 | [],h=>by simp [kI] at h
 | g::r,h=>by
  by_cases ho:zK F g=true
  ·rw [aaJ ho];rfl
  ·rw [aay ho]
   haveI:G5 F g=0:=by
    unfold zK at ho
    unfold G5
    split
    ·rename_i v hv
     rw [hv] at ho
     rcases Nat.eq_zero_or_pos (v.2.count false) with h0 | h0
     ·exact h0
     ·exact absurd (pe h0) ho
    ·rfl
   unfold kI at h
   rw [aaq,List.sum_cons,this,aa1] at h
   exact wE h
theorem Ds {f f':Int->Nat}:∀ {l:List Int},(∀x∈l,f x=f' x)->(l.map f).sum=(l.map f').sum:=λh=>by rw [aaZ h]
theorem yr {f f':Int->Nat} {h:Int} (hh:f' h+1=f h) (hn:∀x,x≠h->f' x=f x):∀ {l:List Int},l.Nodup->h∈l->(l.map f').sum+1=(l.map f).sum
 | [],_,hm=>by cases hm
 | x::l,hd,hm=>by
  rw [abd] at hd
  rw [aaq,aaq,List.sum_cons,List.sum_cons]
  rcases aai.mp hm with rfl | hm
  ·have:(l.map f').sum=(l.map f).sum:=Ds λy hy=>hn y λe=>hd.1 (e▸hy)
   exact id (aag (vF 0x31c1920cc032211190c212 hh this) (vF 0x1920cc31c032311190c312 hh this))
  ·have h1:=yr hh hn hd.2 hm
   have h2:f' x=f x:=hn x λe=>hd.1 (e▸hm)
   exact id (aag (vF 0x13c1902cc032211190c212 h1 h2) (vF 0x1902cc13c032311190c312 h1 h2))
theorem CW {len z:Int} {stay:List Int} {F:Vw} (it:Int×Int) (hd:stay.Nodup) (h:(stay.find? (zK F)).isSome=true):kI (jX len z stay F it).2 stay+1=kI F stay:=by
 obtain ⟨g,hg⟩:=aaT.mp h
 obtain ⟨v,j,hv,hj⟩:=qf (List.find?_some hg)
 rw [tx it hg hv hj]
 dsimp only
 unfold kI
 refine yr (h:=g) ?_ (λx hx=> ?_) hd (aa3 hg)
 ·unfold G5
  rw [bQ,hv]
  exact mG hj
 ·unfold G5
  rw [du _ _ hx]
theorem B2 {len z:Int} {stay:List Int} (hd:stay.Nodup):∀ {its:List (Int×Int)} {F:Vw},its.length<=kI F stay->A9 len z stay F its
 | [],_,_=>trivial
 | it::r,F,h=>by
  rw [aas] at h
  have h1:(stay.find? (zK F)).isSome=true:=wE (by exact cu 0x10911190c011 h)
  haveI h2:=CW (len:=len) (z:=z) it hd h1
  exact ⟨h1,B2 hd (by exact lh 0x2001192c311190c012 h h2)⟩
noncomputable def uc (F:Vw) (g:Int):List (Int×Int):=match F g with | some v=>(cc 0 v.2).map λk=>(g,k) | none=>[]
noncomputable def bR (F:Vw) (stay ys:List Int):List (Int×Int):=ys.flatMap λg=>if g∈stay then [] else uc F g
noncomputable def ce (F:Vw) (g:Int):Int:=((bZ F g:Nat):Int)
noncomputable def bU (p:Int) (F:Vw) (z:Int):List (Int×Int):=jt ((bh p F z).map λg=>(-ce F g,g))
noncomputable def aV (p len:Int) (F:Vw) (z:Int):Int:=(dn ((bh p F z).map (ce F))+len.fdiv z-1).fdiv (len.fdiv z)
noncomputable def aD (p len:Int) (F:Vw) (z:Int):List Int:=cD (((bU p F z).take (aV p len F z).toNat).map (·.2))
theorem gC (f:Int->Nat):∀l:List Int,dn (l.map λg=>((f g:Nat):Int))=(((l.map f).sum:Nat):Int)
 | []=>rfl
 | g::l=>by rw [aaq,dk,gC f l,aaq,List.sum_cons];push_cast;rfl
section
variable {p len z:Int} {F:Vw} (hs:∀g v,F g=some v->v.1=z->(v.2.length:Int)=len.fdiv z) (hz:1<=len.fdiv z)
theorem jd:(bh p F z).Nodup:=(uf p F).filter _
theorem j8 {g:Int} (h:g∈bh p F z):∃bs,F g=some (z,bs):=by
 obtain ⟨h1,h2⟩:=aaz.mp h
 obtain ⟨v,hv⟩:=mK h1
 unfold eW at h2
 rw [hv] at h2
 haveI:v.1=z:=by simpa using h2
 exact ⟨v.2,by rw [hv,<- this]⟩
theorem di:((bU p F z).map (·.2)).Perm (bh p F z):=by
 haveI:=(iU ((bh p F z).map λg=>(-ce F g,g))).map (·.2)
 rw [aaV] at this
 unfold bU
 refine this.trans ?_
 haveI:(bh p F z).map ((λx:Int×Int=>x.2)∘λg=>(-ce F g,g))=bh p F z:=by
  rw [show ((λx:Int×Int=>x.2)∘λg=>(-ce F g,g))=id from rfl,List.map_id]
 rw [this]
theorem eD:(aD p len F z).Perm (((bU p F z).take (aV p len F z).toNat).map (·.2)):=fk _
theorem Ab:(((bU p F z).take (aV p len F z).toNat).map (·.2)).Sublist ((bU p F z).map (·.2)):=(List.take_sublist _ _).map _
theorem iV:(aD p len F z).Nodup:=eD.nodup_iff.mpr ((di.nodup_iff.mpr jd).sublist Ab)
theorem iq {g:Int} (h:g∈aD p len F z):g∈bh p F z:=di.mem_iff.mp (Ab.mem (eD.mem_iff.mp h))
theorem tv (stay:List Int):∀ys:List Int,(bR F stay ys).length=((ys.filter λg => !decide (g∈stay)).map (bZ F)).sum
 | []=>rfl
 | g::ys=>by
  unfold bR
  rw [aaW,aac]
  have ih:=tv stay ys
  unfold bR at ih
  by_cases h:g∈stay
  ·rw [if_pos h,aaG (by simp [h]),ih];simp
  ·rw [if_neg h,aaL (by simp [h]),ih,aaq,List.sum_cons]
   haveI:(uc F g).length=bZ F g:=by
    unfold uc bZ
    cases F g with
    | some v=>dsimp only;rw [aad,gj]
    | none=>rfl
   rw [this]
include hs hz
theorem cap:(bR F (aD p len F z) (bh p F z)).length<=kI F (aD p len F z):=by
 haveI hper:∀g∈bh p F z,G5 F g+bZ F g=(len.fdiv z).toNat:=λg hg=>by
  obtain ⟨bs,hb⟩:=j8 hg
  have h1:=hs g _ hb rfl
  dsimp only at h1
  have h2:=D8 bs
  unfold G5 bZ
  rw [hb]
  dsimp only
  exact id (aag (fu [_,_,_,_] [_] 0x312c03f081021c2100fa13 h1 h2 (aaY _)) (fu [_,_,_,_] [_] 0x12c3003fa1021c3100fb13 h1 h2 (aah (bY 0x98019811 hz))))
 obtain ⟨per,eper⟩:∃per,(len.fdiv z).toNat=per:=⟨_,rfl⟩
 rw [eper] at hper
 have hper1:len.fdiv z=(per:Int):=by exact aaU (jF 0x1f080f08110212 eper (aaY _)) (jF 0x1f800fa110312 eper (aah (bY 0x98019811 hz)))
 rw [tv]
 obtain ⟨zs,ezs⟩:∃zs,bh p F z=zs:=⟨_,rfl⟩
 obtain ⟨st,est⟩:∃st,aD p len F z=st:=⟨_,rfl⟩
 haveI hzn:zs.Nodup:=ezs▸jd
 haveI hsn:st.Nodup:=est▸iV
 have hsi:∀g∈st,g∈zs:=λg hg=>ezs▸iq (est▸hg)
 rw [ezs] at hper ⊢
 rw [est]
 -- the sums
 haveI s1:(zs.map (bZ F)).sum=((zs.filter λg=>decide (g∈st)).map (bZ F)).sum+((zs.filter λg => !decide (g∈st)).map (bZ F)).sum:=by
  haveI:=(List.filter_append_perm (λg=>decide (g∈st)) zs).map (bZ F)
  rw [<- this.sum_nat,List.map_append,List.sum_append]
 haveI s2:((zs.filter λg=>decide (g∈st)).map (bZ F)).sum=(st.map (bZ F)).sum:=by
  refine List.Perm.sum_nat (List.Perm.map _ ?_)
  refine (List.perm_ext_iff_of_nodup (hzn.filter _) hsn).mpr λg=> ?_
  rw [aaz]
  constructor
  ·rintro ⟨_,h⟩;simpa using h
  ·intro h;exact ⟨hsi g h,by simpa using h⟩
 have tot:∀l:List Int,(∀g∈l,g∈zs)->(l.map (G5 F)).sum+(l.map (bZ F)).sum=l.length*per:=λl hl=>by
  clear s1 s2
  induction l with
  | nil=>simp
  | cons g l ih =>
   have h1:=hper g (hl g (.head _))
   have h2:=ih λx hx=>hl x (.tail _ hx)
   rw [aaq,aaq,List.sum_cons,List.sum_cons,aas,Nat.succ_mul]
   exact id (aag (fu [_,_,_,_,_,_] [] 0x25c41c30cc0543c21210c212 h1 h2) (fu [_,_,_,_,_,_] [] 0x41c30cc25c0543c31210c312 h1 h2))
 haveI h3:=tot st hsi
 haveI h4:(zs.map (bZ F)).sum<=zs.length*per:=by haveI:=tot zs λg hg=>hg;exact id (lh 0x210210c211 this)
 -- how many stay
 haveI hlen:st.length=min (aV p len F z).toNat zs.length:=by
  rw [<- est,eD.length_eq,aad,abc]
  congr 1
  rw [<- ezs,<- (di (p:=p) (F:=F) (z:=z)).length_eq,aad]
 haveI hmany:(zs.map (bZ F)).sum<=st.length*per:=by
  have hne:aV p len F z=((((zs.map (bZ F)).sum:Nat):Int)+(per:Int)-1).fdiv (per:Int):=by
   unfold aV
   rw [ezs,hper1]
   congr 2
   congr 1
   exact gC (bZ F) zs
  rw [hlen]
  rcases Nat.le_total (aV p len F z).toNat zs.length with h | h
  ·rw [Nat.min_eq_left h]
   obtain ⟨u1,u2,u3,u4⟩:=c7 (a:=(((zs.map (bZ F)).sum:Nat):Int)+(per:Int)-1) (b:=per) (by exact jF 0x190f1fce0980f0a1019812 hz hper1) (by exact ge 0xf1980f0a1019812 hz hper1)
   rw [<- hne] at u1 u4
   rw [Int.add_mul] at u4
   haveI:(((aV p len F z).toNat*per:Nat):Int)=aV p len F z*per:=by push_cast;rw [aah u1]
   exact id (fu [_,_,_] [_] 0x20002fb11f01d0c191f0fce912 u4 this)
  ·rw [Nat.min_eq_right h];exact h4
 unfold kI
 exact id (fu [_,_,_,_,_,_] [] 0x4205001534c31313121c0314 s1 s2 h3 hmany)
theorem xK:A9 len z (aD p len F z) F (bR F (aD p len F z) (bh p F z)):=B2 iV (cap hs hz)
end
noncomputable def eO (p len:Int) (F:Vw) (z:Int):List (Int×Int):=(cX len z (aD p len F z) F (bR F (aD p len F z) (bh p F z))).1
noncomputable def eK (p len:Int) (F:Vw) (z:Int):Vw:=dE (cX len z (aD p len F z) F (bR F (aD p len F z) (bh p F z))).2 ((bh p F z).filter λg => !decide (g∈aD p len F z))
theorem Ey (F:Vw) (stay:List Int) (n:Nat) (hn:∀g,bZ F g<=n):∀ys:List Int,(bR F stay ys).length<=ys.length*n
 | []=>by simp [bR]
 | g::ys=>by
  have ih:=Ey F stay n hn ys
  rw [tv] at ih ⊢
  haveI:=hn g
  by_cases h:g∈stay
  ·rw [aaG (by simp [h]),aas,Nat.succ_mul];exact id (lh 0x21c0010011 ih)
  ·rw [aaL (by simp [h]),aaq,List.sum_cons,aas,Nat.succ_mul];exact id (vF 0x31c02c0320110012 ih this)
theorem zi {φ : Int->Option V} {o:Int->Bool} (hφ : ∀g,o g=false -> φ g=none) {h:Int} {x:V} (hx : φ h=some x):∀ {l:List Int},l.find? o=some h->(l.filterMap φ)[0]? = some x
 | [],e=>by cases e
 | g::l,e=>by
  cases ho:o g with
  | true =>
   rw [aaJ ho] at e
   cases e
   rw [List.filterMap_cons_some hx];rfl
  | false =>
   rw [aay (by rw [ho];simp)] at e
   rw [List.filterMap_cons_none (hφ g ho)]
   exact zi hφ hx e
noncomputable def Fi (ss:List bH) (g:Int):Option V:=match dL ss g with | some s=>if (bn s.bs).isSome then some (.inst "Shelf" s.sh) else none | none=>none
theorem Ip {ss:List bH} {g:Int} (h:zK (look ss) g=false):Fi ss g=none:=by
 unfold zK look at h
 unfold Fi
 cases hf:dL ss g with
 | none=>rfl
 | some s=>rw [hf] at h;dsimp only [Option.map_some] at h;simp [h]
theorem GE (p:Int):bN 0 p.toNat=(bf p).map V.int:=by
 unfold bf;rw [List.range_eq_range',<- nO];rfl
noncomputable def CV (a b:Int):List Int->List Int->List Int
 | cs,[]=>cs
 | cs,y::ys=>CV a b (cs.set (b+y).toNat (cs.getD (a+y).toNat 0)) ys
theorem xC (a b:Int):∀(ys cs:List Int),(CV a b cs ys).length=cs.length
 | [],_=>rfl
 | y::ys,cs=>by unfold CV;rw [xC a b ys,List.length_set]
section
variable {H:Hp} {ri:Nat} {r:Rm} (hR:aI H ri r) (hO:r.Ok)
include hR hO
inductive Kf (H:Hp) (ri:Nat) (r:Rm) (pl th z:Int) (Z:List Int) (rem:List V) (q:S):Prop
 | mk (cs ys:List Int) (f0:rem=ys.map V.int) (f1:(∀y∈ys,0<=y/\y<z)) (f2:cs.length=r.cs.length) (f3:aI q.H ri { r with cs:=cs }) (f4:cA [r.c] H q.H) (f5:q.l "self" = some (.inst "Room" ri)) (f6:q.l "place" = some (.int pl)) (f7:q.l "there" = some (.int th)) (f8:CV pl th cs ys=Z)
theorem CT {pl th z:Int} (hz:0<=z/\z<=1000) (hin:∀j,0<=j->j<z->0<=pl+j/\pl+j<r.cs.length) (hth:∀j,0<=j->j<z->0<=th+j/\th+j<r.cs.length) {l:bp} (h1:l "self" = some (.inst "Room" ri)) (h2:l "place" = some (.int pl)) (h3:l "size" = some (.int z)) (h4:l "there" = some (.int th)) :
  ∃q',A5 (nk ⟨l,H⟩= .ok .next q') (aI q'.H ri { r with cs:=CV pl th r.cs (bf z) }) (cA [r.c] H q'.H) (q'.l "place" = some (.int pl)) (q'.l "there" = some (.int th)):=by
 haveI e:=GE z
 obtain ⟨q',hq,cs,ys,e8,_,_,i2,i3,i4,i5,i6,i8⟩:=fM (g:=λ_=>True) (bd:=aL "step") (body:=mq) (Kf H ri r pl th z (CV pl th r.cs (bf z))) (λx rem q hI=>by
  obtain ⟨cs,ys,e,h1,h2,h3,h4,h5,h6,h7,h8⟩:=hI
  obtain ⟨l,Hq⟩:=q
  dsimp only at h3 h4 h5 h6 h7
  cases ys with
  | nil=>simp at e
  | cons y ys =>
   obtain ⟨rfl,rfl⟩:x= .int y/\rem=ys.map V.int:=by simpa using e
   obtain ⟨y1,y2⟩:=h1 y (.head _)
   have hO':=Rm.Ok.setCs hR hO h2
   obtain ⟨k1,k2⟩:=hin y y1 y2
   obtain ⟨k3,k4⟩:=hth y y1 y2
   obtain ⟨v,gv,hv⟩:=Co h3 hO' (i:=pl+y) k1 (by show _<((cs.length:Nat):Int);exact id (fu [_,_] [_,_] 0xf10c91f10c9110312 h2 k2))
   haveI hc:=yd h3 hO' (i:=th+y) (v:=v) k3 (by show _<((cs.length:Nat):Int);exact id (fu [_,_] [_,_] 0xf10c91f10c9110312 h2 k4)) (upd l "step" (.int y))
   have hc2:=qh h3 (upd l "step" (.int y))
   have a1:upd l "step" (.int y) "self" = some (.inst "Room" ri):=ah rfl ∅ h5
   have a2:upd l "step" (.int y) "place" = some (.int pl):=ah rfl ∅ h6
   have a3:upd l "step" (.int y) "there" = some (.int th):=ah rfl ∅ h7
   dsimp only at hv hc hc2
   refine ⟨⟨upd l "step" (.int y),Hq.set r.c (.list ((cs.set (th+y).toNat v).map V.int))⟩,?_,trivial,cs.set (th+y).toNat v,ys,rfl,λy' hy'=>h1 y' (.tail _ hy'),by rw [List.length_set];exact h2,aI.setCs h3 hO' _,h4.trans (cA.set (by simp)),a1,a2,a3,?_⟩
   ·exists a1,a2,a3,hc2,hv,hc
   ·rw [<- h8,CV,List.getD_eq_getElem?_getD,show cs[(pl+y).toNat]? = some v from gv];rfl) _ ⟨l,H⟩ ⟨r.cs,bf z,e,λy hy=>bV.mp hy,rfl,hR,cA.refl _ _,h1,h2,h4,rfl⟩
 cases ys with
 | cons _ _=>simp at e8
 | nil =>
 change cs=_ at i8
 rw [i8] at i2
 refine ⟨q',?_,i2,i3,i5,i6⟩
 exists h3,j3 z _ (Kc hz)
 exact hq
theorem GN {n:Nat} {stay:List Int} {z pl:Int} (hn:H[n]? = some (.list (stay.map V.int))) (hst:∀g∈stay,∃bs,look r.ss g=some (z,bs)) (hlen:stay.length<=40) (hpl:∀j,0<=j->j<z->0<=pl+j/\pl+j<r.cs.length)
  {h:Int} {bs:List Bool} {j:Nat} (h1:stay.find? (zK (look r.ss))=some h) (h2:look r.ss h=some (z,bs)) (h3:bn bs=some j) :
  ∃r' H',A8 (ku [.inst "Room" ri,.int pl,.ref n,.int z] H= .ok (aw (pl,h*r.len+(j:Nat)*z)) H') (aI H' ri r') r'.Ok (r.Sm r') (look r'.ss=cS (look r.ss) h (some (z,bs.set j true))) (cA (r.own ri) H H') (r'.own ri=r.own ri) (r'.cs=CV pl (h*r.len+(j:Nat)*z) r.cs (bf z)):=by
 refine nH λG kG=> ?_
 obtain ⟨l0,e0,a1,a2,a3,a4⟩:∃l0,a9 ["self", "place", "stay", "size"] [.inst "Room" ri,.int pl,.ref n,.int z]=l0/\l0 "self" = some (.inst "Room" ri)/\l0 "place" = some (.int pl)/\l0 "stay" = some (.ref n)/\l0 "size" = some (.int z):=⟨_,rfl,rfl,rfl,rfl,rfl⟩
 obtain ⟨s,hs,y1,y2⟩:=bB h2
 dsimp only at y1 y2
 subst y1 y2
 obtain ⟨hm,ehp⟩:=aS hs
 subst ehp
 haveI hc:∃H',iz ⟨l0,H⟩= .ok (.ref H'.length) ⟨l0,H'++[.list (stay.filterMap (Fi r.ss))]⟩/\H<+:H':=by
  unfold iz
  refine fq (n:=n) (ks:=stay) ?_ hn (by exact b9 0xf4240a00000028a0011 hlen) (Fi r.ss) λg hg Hx hp=> ?_
  ·exists a3
   exact dJ hn
  ·obtain ⟨bs',hb'⟩:=hst g hg
   obtain ⟨s',hs',z1,z2⟩:=bB hb'
   haveI hm':=(aS hs').1
   have hRx:=hR.pre hp
   refine bz (upd (gn ["self"] l0) "page" (.int g)) λlc elc=> ?_
   have b1:lc "self" = some (.inst "Room" ri):=by rw [<- elc,eP _ _ ∅,Cr (by simp)];exact a1
   have b2:lc "page" = some (.int g):=ay elc
   obtain ⟨mf,cf⟩:=Cp hRx hO hm' lc
   refine bz (Hx++[O.list ((lG 0 s'.bs).map V.int)]) λH2 e2=> ?_
   refine bz (H2++[O.list []]) λH3 e3=> ?_
   have p2:Hx<+:H2:=⟨_,e2⟩
   have p3:H2<+:H3:=⟨_,e3⟩
   rw [e2] at cf
   have n1:eU [] ⟨lc,H2⟩= .ok (.ref H2.length) ⟨lc,H3⟩:=by rw [mX,if_pos (by simp),e3]
   haveI g1:H3[Hx.length]? = some (.list ((lG 0 s'.bs).map V.int)):=aA p3 (by rw [<- e2];simp)
   have q1:nZ (.ref Hx.length) (.ref H2.length) ⟨lc,H3⟩= .ok (!(bn s'.bs).isSome) ⟨lc,H3⟩:=by
    rw [jZ (q:=⟨lc,H3⟩) (ys:=[]) g1 (by rw [<- e3];simp),qS]
   have hR3:=hRx.pre (p2.trans p3)
   haveI hE:Fi r.ss g=if (bn s'.bs).isSome then some (.inst "Shelf" s'.sh) else none:=by unfold Fi;rw [hs']
   rw [hE]
   refine ⟨H3,?_,p2.trans p3⟩
   cases hb:(bn s'.bs).isSome with
   | true =>
    rw [hb] at q1
    exact cZ (H2:=H3) (by rw [elc];exists b1,b2,bw hRx,dh hRx hs',mf,cf,n1,q1) (by rw [elc];exists b1,b2,bw hR3,dh hR3 hs')
   | false =>
    rw [hb] at q1
    exact qr (by rw [elc];exists b1,b2,bw hRx,dh hRx hs',mf,cf,n1,q1)
 obtain ⟨H1,hc,p1⟩:=hc
 refine bz (H1++[O.list (stay.filterMap (Fi r.ss))]) λH2 e2=> ?_
 rw [e2] at hc
 have p2:H<+:H2:=p1.trans ⟨_,e2⟩
 haveI x0:(stay.filterMap (Fi r.ss))[0]? = some (.inst "Shelf" s.sh):=zi (λg hg=>Ip hg) (by unfold Fi;rw [hs];dsimp only;rw [h3];rfl) h1
 haveI x2:H2[H1.length]? = some (.list (stay.filterMap (Fi r.ss))):=by rw [<- e2];simp
 haveI hit:aJ (.ref H1.length) (.int 0) ⟨l0,H2⟩= .ok (.inst "Shelf" s.sh) ⟨l0,H2⟩:=by
  haveI x0':(stay.filterMap (Fi r.ss))[(0:Int).toNat]? = some (.inst "Shelf" s.sh):=x0
  exact xO x2 ⟨by decide,by decide⟩ x0'
 refine bz (upd l0 "shelf" (.inst "Shelf" s.sh)) λl1 el1=> ?_
 haveI t1:ni ⟨l0,H⟩= .ok .next ⟨l1,H2⟩:=by exists hc,hit,el1
 have c1:l1 "self" = some (.inst "Room" ri):=ah el1 ∅ a1
 haveI c2:l1 "place" = some (.int pl):=ah el1 ∅ a2
 have c3:l1 "shelf" = some (.inst "Shelf" s.sh):=ay el1
 haveI c4:l1 "size" = some (.int s.sz):=ah el1 ∅ a4
 have R2:=hR.pre p2
 obtain ⟨mt,ct,R3,O3⟩:=Cq R2 hO hm h3 l1
 refine bz (H2.set s.t (.list ((s.bs.set j true).map V.bool))) λH3 e3=> ?_
 rw [e3] at ct R3
 haveI g3:cA (r.own ri) H2 H3:=by rw [<- e3];exact cA.set (EQ ri hm)
 have hj:=(gw h3).1
 haveI hbl:=hO.bslen hm
 have hpg:=hO.pg s hm
 haveI hpp:=hO.p
 haveI hs1:jf H3 s.sh s.t s.pg s.sz (s.bs.set j true):=R3.shelf { s with bs:=s.bs.set j true } (aaf.mpr ⟨s,hm,by simp⟩)
 haveI vb:=tD R3 (s:={ s with bs:=s.bs.set j true }) hs1 j ⟨hpg.1,by show s.pg<1000;exact id (pD 0x3e8a09000028a18110912 hpg.2 hpp.2)⟩ ⟨by exact b9 0xf0980,by exact cu 0x3e8a0f90003e8a10110112 hj hbl⟩
 dsimp only at vb
 refine bz (upd l1 "there" (.int (s.pg*r.len+j*s.sz))) λl2 el2=> ?_
 haveI t2:nj ⟨l1,H2⟩= .ok .next ⟨l2,H3⟩:=by
  exists c1,c3,bA R2 (f := "begin") ⟨by decide,by decide,by decide⟩,mt,ct,vb,el2
 have hsz:=hO.szpos hm
 haveI hlen':=hO.len
 obtain ⟨q',i0,i2,i3,i4,i5⟩:=CT R3 O3 (pl:=pl) (th:=s.pg*r.len+j*s.sz) (z:=s.sz) ⟨by exact bY 0x98019811 hsz.1,by exact pD 0x3e8a0800003ca18110812 hsz.2 hlen'.2⟩ hpl (λi j1 j2=>by
   obtain ⟨u1,u2,_⟩:=nU hO hm (k:=j) (by exact b9 0xf0980) (by exact cu 0x1f0f910111 hj) j1 j2
   exact ⟨u1,u2⟩) (l:=l2) (ah el2 ∅ c1) (ah el2 ∅ c2) (ah el2 ∅ c4) (by rw [<- el2];simp [upd])
 obtain ⟨l',H'⟩:=q'
 dsimp only at i2 i3 i4 i5
 refine kG ⟨_,H',bg (m:=pS) (q:=⟨l',H'⟩) rfl (by rw [e0];exact ak t1 (ak t2 (ak i0 (by exists i4,i5)))),i2,Rm.Ok.setCs R3 O3 (xC _ _ _ _),⟨rfl,rfl,rfl,rfl,rfl,rfl,rfl⟩,?_,((cA.pre p2).trans g3).trans (i3.mono λi hi _=> ?_),?_,rfl⟩
 ·exact pi hs _
 ·rw [aaj.mp hi];exact EO ri r
 ·show Rm.own ri { r with ss:=setBs r.ss s.pg (s.bs.set j true) }=_
  unfold Rm.own
  dsimp only
  rw [uQ,nS]
end
theorem oO {H:Hp} {l:bp} {n:Nat} {ns:List Int} (h:H[n]? = some (.list (ns.map V.int))) (hl:ns.length<1000000):cj [.ref n] ⟨l,H⟩= .ok (.ref H.length) ⟨l,H++[.list ((cD ns).map V.int)]⟩:=by
 unfold cj;dsimp only;rw [h];dsimp only;rw [kK];exact if_pos hl
theorem iP {H:Hp} {l:bp} {n:Nat} {ps:List (Int×Int)} (h:H[n]? = some (.list (ps.map aw))) (hl:ps.length<1000000):cj [.ref n] ⟨l,H⟩= .ok (.ref H.length) ⟨l,H++[.list ((jt ps).map aw)]⟩:=by
 cases ps with
 | nil =>
  haveI:jt []=[]:=List.Perm.eq_nil (iU [])
  unfold cj;dsimp only;rw [h,this];rfl
 | cons p ps =>
  haveI h1:dt oG ((p::ps).map aw)=none:=by
   rw [aaq];rfl
  unfold cj;dsimp only;rw [h];dsimp only;rw [h1];dsimp only;rw [wQ];exact if_pos hl
theorem Ih {H:Hp} {l:bp} {n:Nat} {ps:List (Int×Int)} {b:Int} (h:H[n]? = some (.list (ps.map aw))) (hl:ps.length<=1000000) (hb:0<=b):sr (.ref n) (.int b) ⟨l,H⟩= .ok (.ref H.length) ⟨l,H++[.list ((ps.take b.toNat).map aw)]⟩:=by
 haveI:0<=b/\(ps.map aw).length<=1000000:=⟨hb,by simpa using hl⟩
 unfold sr;dsimp only;rw [bX h];dsimp only;rw [if_pos this,List.map_take]
theorem tM {caps:List String} {x:String} {tst:Cm Bool} {elt:Cm V} {l:bp} {mi:Cm It} {H H1:Hp} {n:Nat} {ps:List (Int×Int)}
  (hmi:mi ⟨l,H⟩= .ok ⟨ps.map aw,λH=>av (.ref n) H=some (ps.map aw)⟩ ⟨l,H1⟩) (hn:H1[n]? = some (.list (ps.map aw))) (hlen:ps.length<=1000000)
  (hstep:∀p:Int×Int,bM (aL x) tst elt (gn caps l) (aw p) H1= .ok (some (.int p.2)) H1) :
  cC caps mi (aL x) tst elt ⟨l,H⟩= .ok (.ref H1.length) ⟨l,H1++[.list ((ps.map (·.2)).map V.int)]⟩:=by
 let ψ : V->Option V:=λv=>match v with | .tup [_,b]=>some b | _=>none
 haveI hc:=fn (g:=λH=>av (.ref n) H=some (ps.map aw)) (bd:=aL x) (tst:=tst) (elt:=elt) (lc:=gn caps l) (H:=H1) (bX hn) ψ (ps.map aw) λv hv=>by
  obtain ⟨p,_,rfl⟩:=aaf.mp hv
  exact hstep p
 haveI e:(ps.map aw).filterMap ψ = (ps.map (·.2)).map V.int:=by rw [List.filterMap_map,aaV,<- List.filterMap_eq_map];rfl
 rw [e] at hc
 exact fo hmi (by simpa using hlen) hc
theorem mJ {n:Nat} {ks:List (Int×Int)} {l:bp} {H:Hp} (hn:H[n]? = some (.list (ks.map aw))):cW (.ref n) ⟨l,H⟩= .ok ⟨ks.map aw,λH=>av (.ref n) H=some (ks.map aw)⟩ ⟨l,H⟩:=by
 rw [rd,bX hn]
theorem BJ {ri:Nat} {r:Rm}:∀i∈r.dep ri,i∈r.own ri\/i=r.pl\/i=r.m:=λi hi=>by
 unfold Rm.dep at hi
 unfold Rm.own
 simp at hi ⊢
 rcases hi with h | h | h | h | h | h | h
 ·exact .inl (.inl h)
 ·exact .inr (.inl h)
 ·exact .inr (.inr h)
 ·exact .inl (.inr (.inl h))
 ·exact .inl (.inr (.inr (.inl h)))
 ·exact .inl (.inr (.inr (.inr (.inl h))))
 ·exact .inl (.inr (.inr (.inr (.inr h))))
def GL (ri:Nat) (z:Int) (a b c:Nat) (l:bp):Prop:=l "self" = some (.inst "Room" ri)/\l "size" = some (.int z)/\l "stay" = some (.ref b)/\l "moves" = some (.ref c)/\l "pages" = some (.ref a)
theorem GL.upd {ri:Nat} {z:Int} {a b c:Nat} {l:bp} (h:GL ri z a b c l) {x:String} {v:V} (hx:x = "page" \/ x = "slot"):GL ri z a b c (Mine.Lake.upd l x v):=by
 obtain ⟨h1,h2,h3,h4,h5⟩:=h
 rcases hx with rfl | rfl
 ·exact ⟨by simpa [Mine.Lake.upd] using h1,by simpa [Mine.Lake.upd] using h2,by simpa [Mine.Lake.upd] using h3,by simpa [Mine.Lake.upd] using h4,by simpa [Mine.Lake.upd] using h5⟩
 ·exact ⟨by simpa [Mine.Lake.upd] using h1,by simpa [Mine.Lake.upd] using h2,by simpa [Mine.Lake.upd] using h3,by simpa [Mine.Lake.upd] using h4,by simpa [Mine.Lake.upd] using h5⟩
noncomputable def D5 (z:Int):List Int->List (Int×Int)->List Int
 | cs,[]=>cs
 | cs,m::ms=>D5 z (CV m.1 m.2 cs (bf z)) ms
structure GI (H0:Hp) (ri:Nat) (r:Rm) (z:Int) (F0:Vw) (stay zs:List Int) (a b c:Nat) (Mt:List (Int×Int)) (Ft:Vw) (Ct:List Int) (todo:List (Int×Int)) (H:Hp) (r':Rm) (acc:List (Int×Int)):Prop where
 at':aI H ri r'
 ok:r'.Ok
 sm:r.Sm r'
 off:∀x,x∉stay->look r'.ss x=F0 x
 on:∀x∈stay,∃bs,look r'.ss x=some (z,bs)
 mv:A9 r.len z stay (look r'.ss) todo
 m:acc++(cX r.len z stay (look r'.ss) todo).1=Mt
 f:(cX r.len z stay (look r'.ss) todo).2=Ft
 hc:H[c]? = some (.list (acc.map aw))
 ha:H[a]? = some (.list (zs.map V.int))
 hb:H[b]? = some (.list (stay.map V.int))
 chg:cA (c::r.own ri) H0 H
 own:r'.own ri=r.own ri
 few:acc.length+todo.length<=50000
 cl:D5 z r'.cs (cX r.len z stay (look r'.ss) todo).1=Ct
structure GA (ri:Nat) (r:Rm) (a b c:Nat):Prop where
 ca:c≠a
 cb:c≠b
 co:c∉r.own ri
 cp:c≠r.pl
 cm:c≠r.m
 ao:a∉r.own ri
 bo:b∉r.own ri
section
variable {H0:Hp} {ri:Nat} {r:Rm} {z:Int} {F0:Vw} {stay zs:List Int} {a b c:Nat} {Mt:List (Int×Int)} {Ft:Vw} {Ct:List Int} (hA:GA ri r a b c) (hst:stay.length<=40)
include hA hst
theorem Eo {g:Int} {k:Nat} {todo:List (Int×Int)} {l:bp} {H:Hp} {r':Rm} {acc:List (Int×Int)} (hI:GI H0 ri r z F0 stay zs a b c Mt Ft Ct ((g,(k:Int))::todo) H r' acc) (hl:GL ri z a b c l) (h1:l "page" = some (.int g)) (h2:l "slot" = some (.int k))
  (hg:g∉stay) {bs0:List Bool} (hF:F0 g=some (z,bs0)) (hk:bs0[k]? = some true):∃H' r'' acc',A3 (gH ⟨l,H⟩= .ok .next ⟨l,H'⟩) (GI H0 ri r z F0 stay zs a b c Mt Ft Ct todo H' r'' acc') (cA (c::r.own ri) H H'):=by
 refine nH λG kG=> ?_
 obtain ⟨s,hs,y1,y2⟩:=bB (ss:=r'.ss) (v:=(z,bs0)) (by rw [hI.off g hg];exact hF)
 dsimp only at y1 y2
 obtain ⟨hm,ep⟩:=aS hs
 obtain ⟨l1,l2,l3,l4,l5⟩:=hl
 have hR:=hI.at'
 have hO:=hI.ok
 have hkl:=(aaa.mp hk).1
 haveI hbl:=hO.bslen hm
 have hpg:=hO.pg s hm
 haveI hpp:=hO.p
 have elen:r'.len=r.len:=hI.sm.len
 haveI vb:=tD hR (hR.shelf s hm) k ⟨hpg.1,by exact pD 0x3e8a09000028a18110912 hpg.2 hpp.2⟩ ⟨by exact b9 0xf0980,by rw [y2] at hbl;exact id (cu 0x3e8a0f90003e8a10110112 hkl hbl)⟩
 rw [ep,y1,elen] at vb
 obtain ⟨hfind,hmv⟩:=hI.mv
 obtain ⟨h,hh⟩:=aaT.mp hfind
 obtain ⟨v,j,hv,hj⟩:=qf (List.find?_some hh)
 obtain ⟨bsh,hbh⟩:=hI.on h (aa3 hh)
 rw [hbh] at hv
 cases hv
 have est:=tx (len:=r.len) (z:=z) (g,(k:Int)) hh hbh hj
 obtain ⟨r2,H2,k1,k2,k3,k4,k5,k6,k7,k8⟩:=GN hR hO (n:=b) (pl:=g*r.len+k*z) hI.hb hI.on hst (λi i1 i2=>by
  obtain ⟨u1,u2,_⟩:=nU hO hm (k:=k) (by exact b9 0xf0980) (by rw [y2];exact id (cu 0x1f0f910111 hkl)) i1 (by rw [y1];exact i2)
  rw [ep,y1,elen] at u1 u2
  exact ⟨u1,u2⟩) hh hbh hj
 rw [elen] at k1
 have eo:r'.own ri=r.own ri:=hI.own
 rw [eo] at k6 k7
 have c2:=k6.get hI.hc hA.co
 haveI a2:=k6.get hI.ha hA.ao
 haveI b2:=k6.get hI.hb hA.bo
 have hfew:=hI.few
 rw [aas] at hfew
 have hap:=mW (aw (g*r.len+k*z,h*r.len+j*z)) l H2 c2 (by simp;exact id (cu 0xf4240a0100c350a191c0c011 hfew))
 haveI kd:fV (.ref c) ⟨l,H⟩= .ok true ⟨l,H⟩:=by rw [xZ,hI.hc]
 haveI hcl:=(aaa.mp c2).1
 have C3:cA [c] H2 (H2.set c (.list (acc.map aw++[aw (g*r.len+k*z,h*r.len+j*z)]))):=cA.set (by simp)
 have em:=hI.m
 have ef:=hI.f
 have ec:=hI.cl
 rw [pn,est] at em ef ec
 rw [est] at hmv
 refine kG ⟨_,r2,acc++[(g*r.len+k*z,h*r.len+j*z)],?_,⟨k2.chg C3 λi hi hx=> ?_,k3,hI.sm.trans k4,λx hx=> ?_,λx hx=> ?_,?_,?_,?_,?_,C3.get a2 (by simpa using hA.ca.symm),C3.get b2 (by simpa using hA.cb.symm),?_,k7,?_,?_⟩,?_⟩
 ·exists l1,l2,l3,l4,h1,h2,kd,bA hR (f := "moved") ⟨by decide,by decide,by decide⟩,bA hR (f := "begin") ⟨by decide,by decide,by decide⟩,bw hR,dh hR hs,vb,k1,hap
 ·rw [aaj.mp hx] at hi
  rcases BJ c hi with h | h | h
  ·rw [k7] at h;exact hA.co h
  ·rw [(hI.sm.trans k4).pl] at h;exact hA.cp h
  ·rw [(hI.sm.trans k4).m] at h;exact hA.cm h
 ·rw [k5]
  haveI:x≠h:=λe=>hx (e▸aa3 hh)
  rw [du _ _ this]
  exact hI.off x hx
 ·rw [k5]
  by_cases e:x=h
  ·subst e;exact ⟨_,bQ _ _ _⟩
  ·rw [du _ _ e];exact hI.on x hx
 ·rw [k5];exact hmv
 ·rw [k5,aae];exact em
 ·rw [k5];exact ef
 ·rw [aaA hcl];simp
 ·exact (hI.chg.trans (k6.mono λi hi _=> .tail _ hi)).trans (C3.mono λi hi _=>by rw [aaj.mp hi];exact .head _)
 ·simp;exact id (cu 0xc350a1190cc000c350a191c0c011 hfew)
 ·rw [k5,k8,elen];exact ec
 ·exact (k6.mono λi hi _=> .tail _ hi).trans (C3.mono λi hi _=>by rw [aaj.mp hi];exact .head _)
theorem En {g:Int} {ys:List Int} {l:bp} {H:Hp} {r':Rm} {acc:List (Int×Int)} (hI:GI H0 ri r z F0 stay zs a b c Mt Ft Ct (bR F0 stay (g::ys)) H r' acc) (hl:GL ri z a b c l) (hown:∀i∈c::r.own ri,i<H.length) (hF:∃bs,F0 g=some (z,bs)) :
  ∃l' H' r'' acc',A4 (((aL "page" (.int g)).b λ_=>eZ) ⟨l,H⟩= .ok .next ⟨l',H'⟩) (GI H0 ri r z F0 stay zs a b c Mt Ft Ct (bR F0 stay ys) H' r'' acc') (GL ri z a b c l') (cA (c::r.own ri) H H'):=by
 refine nH λG kG=> ?_
 obtain ⟨bs,hF⟩:=hF
 have hl1:=hl.upd (x := "page") (v:= .int g) (.inl rfl)
 have hp1:upd l "page" (.int g) "page" = some (.int g):=nv _ _ _
 refine bz (upd l "page" (.int g)) λl1 el1=> ?_
 rw [el1] at hl1 hp1
 have hin:tY (.int g) (.ref b) ⟨l1,H⟩= .ok (decide (g∈stay)) ⟨l1,H⟩:=nN (q:=⟨l1,H⟩) hI.hb
 by_cases hg:g∈stay
 ·rw [decide_eq_true hg] at hin
  haveI e:bR F0 stay (g::ys)=bR F0 stay ys:=by unfold bR;rw [aaW,if_pos hg];rfl
  rw [e] at hI
  refine kG ⟨l1,H,r',acc,?_,hI,hl1,cA.refl _ _⟩
  haveI st1:=hl1.2.2.1
  exists el1,hp1,st1,hin
 ·rw [decide_eq_false hg] at hin
  have e:bR F0 stay (g::ys)=(cc 0 bs).map (λk=>(g,k))++bR F0 stay ys:=by
   unfold bR;rw [aaW,if_neg hg];unfold uc;rw [hF]
  rw [e] at hI
  obtain ⟨s,hs,y1,y2⟩:=bB (ss:=r'.ss) (v:=(z,bs)) (by rw [hI.off g hg];exact hF)
  dsimp only at y1 y2
  obtain ⟨hm,ep⟩:=aS hs
  have hR:=hI.at'
  have hS:=hR.shelf s hm
  haveI hgo:=FB hS (hI.ok.bslen hm)
  rw [y2] at hgo
  haveI mg:∀l,d5 "Shelf" "gone" (.inst "Shelf" s.sh) ⟨l,H⟩= .ok () ⟨l,H⟩:=λl=>eY hS.ob rfl
  refine bz (H++[O.list ((cc 0 bs).map V.int)]) λH1 e1=> ?_
  rw [e1] at hgo
  have p1:H<+:H1:=⟨_,e1⟩
  have x1:H1[H.length]? = some (.list ((cc 0 bs).map V.int)):=by rw [<- e1];simp
  haveI hI1:GI H0 ri r z F0 stay zs a b c Mt Ft Ct ((cc 0 bs).map (λk=>(g,k))++bR F0 stay ys) H1 r' acc :=
   ⟨hI.at'.pre p1,hI.ok,hI.sm,hI.off,hI.on,hI.mv,hI.m,hI.f,aA p1 hI.hc,aA p1 hI.ha,aA p1 hI.hb,hI.chg.trans (cA.pre p1),hI.own,hI.few,hI.cl⟩
  obtain ⟨q',hq,ks,r2,acc2,ek,_,i1,i2,i3,i4,i5⟩:=fM (g:=λH'=>av (.ref H.length) H'=some ((cc 0 bs).map V.int)) (bd:=aL "slot") (body:=gH)
   (λrem q=> ∃(ks:List Int) (r':Rm) (acc:List (Int×Int)),rem=ks.map V.int/\(∀k∈ks,k∈cc 0 bs)/\GI H0 ri r z F0 stay zs a b c Mt Ft Ct (ks.map (λk=>(g,k))++bR F0 stay ys) q.H r' acc/\GL ri z a b c q.l/\q.l "page" = some (.int g)/\q.H[H.length]? = some (.list ((cc 0 bs).map V.int))/\cA (c::r.own ri) H1 q.H) (λx rem q hq=>by
    obtain ⟨ks,r',acc,e,w1,w2,w3,w4,w5,w6⟩:=hq
    obtain ⟨l,Hq⟩:=q
    dsimp only at w2 w3 w4 w5 w6
    cases ks with
    | nil=>simp at e
    | cons k ks =>
     obtain ⟨rfl,rfl⟩:x= .int k/\rem=ks.map V.int:=by simpa using e
     obtain ⟨j,ej,hj⟩:=eE bs 0 k (w1 k (.head _))
     rw [aa1] at ej
     subst ej
     have w3':=w3.upd (x := "slot") (v:= .int (j:Int)) (.inr rfl)
     obtain ⟨H',r2,acc2,v1,v2,v3⟩:=Eo hA hst (l:=upd l "slot" (.int (j:Int))) w2 w3' (ah rfl ∅ w4) (by simp [upd]) hg hF hj
     have x2:=v3.get w5 λhx=>by haveI:=hown _ hx;exact id (b9 0x909600111 this)
     exact ⟨⟨upd l "slot" (.int (j:Int)),H'⟩,by rw [rZ,zQ];exact v1,bX x2,ks,r2,acc2,rfl,λk' hk'=>w1 k' (.tail _ hk'),v2,w3',ah rfl ∅ w4,x2,w6.trans v3⟩) _ ⟨l1,H1⟩ ⟨cc 0 bs,r',acc,rfl,λk hk=>hk,hI1,hl1,hp1,x1,cA.refl _ _⟩
  cases ks with
  | cons _ _=>simp at ek
  | nil =>
  obtain ⟨l2,H2⟩:=q'
  refine kG ⟨l2,H2,r2,acc2,?_,i1,i2,(cA.pre p1).trans i5⟩
  haveI st1:=hl1.2.2.1
  haveI se1:=hl1.1
  exists el1,hp1,st1,hin,se1,bw hR,dh hR hs,mg,hgo,dJ x1
  exact hq
end
theorem gk {p len z:Int} {F:Vw} (hz:1<=len.fdiv z):0<=aV p len F z:=by
 unfold aV
 haveI:dn ((bh p F z).map (ce F))=((((bh p F z).map (bZ F)).sum:Nat):Int):=gC (bZ F) _
 rw [this]
 exact (c7 (by exact ge 0x1900fce098019811 hz) hz).1
theorem Fo {p len z:Int} (hp:p<=40) {F:Vw}:(aD p len F z).length<=40:=by
 rw [eD.length_eq,aad,abc]
 haveI h1:=(di (p:=p) (F:=F) (z:=z)).length_eq
 rw [aad] at h1
 haveI h2:=Af p hp F z
 exact id (lh 0x28a200201000028a10110213 h1 h2 (Nat.min_le_right _ _))
structure GV (ri:Nat) (z per:Int) (a:Nat) (l:bp):Prop where
 s:l "self" = some (.inst "Room" ri)
 z:l "size" = some (.int z)
 p:l "per" = some (.int per)
 g:l "pages" = some (.ref a)
theorem GV.upd {ri a:Nat} {z per:Int} {l l':bp} {x:String} {v:V} (h:GV ri z per a l) (e:upd l x v=l') (n1 : "self" ≠ x) (n2 : "size" ≠ x) (n3 : "per" ≠ x) (n4 : "pages" ≠ x):GV ri z per a l' :=
 ⟨ah e n1 h.s,ah e n2 h.z,ah e n3 h.p,ah e n4 h.g⟩
def Jr (F:Vw) (z:Int) (zs:List Int):Prop:= ∀g∈zs,∃bs,F g=some (z,bs)
inductive G2 (ri:Nat) (z per:Int) (zs:List Int) (l0:bp) (H:Hp):Prop
 | mk (l1 l2:bp) (H1:Hp) (a:Nat) (t1:gU ⟨l0,H⟩= .ok .next ⟨l1,H⟩) (t2:lO ⟨l1,H⟩= .ok .next ⟨l2,H1⟩) (g:GV ri z per a l2) (p:H<+:H1) (x:H1[a]? = some (.list (zs.map V.int))) (n:H.length<=a)
inductive G3 (ri:Nat) (z per m:Int) (a:Nat) (l:bp) (H:Hp):Prop
 | mk (l':bp) (H':Hp) (t:lP ⟨l,H⟩= .ok .next ⟨l',H'⟩) (g:GV ri z per a l') (m:l' "many" = some (.int m)) (p:H<+:H')
inductive G4 (ri:Nat) (z per m:Int) (a:Nat) (ps:List (Int×Int)) (l:bp) (H:Hp):Prop
 | mk (l':bp) (H':Hp) (n:Nat) (t:lQ ⟨l,H⟩= .ok .next ⟨l',H'⟩) (g:GV ri z per a l') (m:l' "many" = some (.int m)) (k:l' "ranks" = some (.ref n)) (p:H<+:H') (x:H'[n]? = some (.list (ps.map aw)))
inductive G6 (ri:Nat) (z per:Int) (a:Nat) (stay:List Int) (l:bp) (H:Hp):Prop
 | mk (l' l'':bp) (H' H'':Hp) (b:Nat) (t5:gV ⟨l,H⟩= .ok .next ⟨l',H'⟩) (t6:gW ⟨l',H'⟩= .ok .next ⟨l'',H''⟩) (g:GL ri z a b H'.length l'') (p:H<+:H'') (x:H''[b]? = some (.list (stay.map V.int))) (y:H''[H'.length]? = some (.list [])) (n:H.length<=b) (n2:b<H'.length) (n3:H'.length<H''.length)
section
variable {H:Hp} {ri:Nat} {r:Rm} (hR:aI H ri r) (hO:r.Ok)
include hR hO
theorem HJ {z:Int} (hzx:z∈r.xs):G2 ri z (r.len.fdiv z) (bh r.p (look r.ss) z) (a9 ["self", "size"] [.inst "Room" ri,.int z]) H:=by
 generalize e0:a9 ["self", "size"] [.inst "Room" ri,.int z]=l0
 have a1:l0 "self" = some (.inst "Room" ri):=e0▸rfl
 have a2:l0 "size" = some (.int z):=e0▸rfl
 haveI hper:=EU hR hO hzx
 haveI hpm:∀l,d5 "Plan" "per" (.inst "Plan" r.pl) ⟨l,H⟩= .ok () ⟨l,H⟩:=λl=>eY hR.plan (E0 _ _ _)
 generalize el1:upd l0 "per" (.int (r.len.fdiv z))=l1
 haveI t1:gU ⟨l0,H⟩= .ok .next ⟨l1,H⟩:=by exists a1,a2,jp hR,hpm,hper,el1
 have b1:l1 "self" = some (.inst "Room" ri):=ah el1 ∅ a1
 have b2:l1 "size" = some (.int z):=ah el1 ∅ a2
 obtain ⟨a,H1,hof,p1,x1,ha⟩:=vx hR hO z
 rw [hO.ofSz] at x1
 generalize el2:upd l1 "pages" (.ref a)=l2
 exact ⟨l1,l2,H1,a,t1,(by exists b1,b2,bA hR (f := "of_size") ⟨by decide,by decide,by decide⟩,hof,el2),⟨ah el2 ∅ b1,ah el2 ∅ b2,ah el2 ∅ (ay el1),ay el2⟩,p1,x1,ha⟩
theorem BQ {z g:Int} {bs:List Bool} (hb:look r.ss g=some (z,bs)) (l:bp):∃s H',A4 (dL r.ss g=some s) (∀l,d5 "Shelf" "out" (.inst "Shelf" s.sh) ⟨l,H⟩= .ok () ⟨l,H⟩) (bD (bO) [.inst "Shelf" s.sh] ⟨l,H⟩= .ok (.int (ce (look r.ss) g)) ⟨l,H'⟩) (H<+:H'):=by
 obtain ⟨s,hs,y1,y2⟩:=bB hb
 obtain ⟨mo,co⟩:=uJ hR hO (aS hs).1 l
 haveI hE:ce (look r.ss) g=((s.bs.count true:Nat):Int):=by unfold ce bZ;rw [hb,y2]
 rw [<- hE] at co
 exact ⟨s,_,hs,mo,co,aav _ _⟩
theorem Ja {z per:Int} {a:Nat} {zs:List Int} {l:bp} (hl:GV ri z per a l) (x:H[a]? = some (.list (zs.map V.int))) (hz:zs.length<=40) (hat:Jr (look r.ss) z zs):G3 ri z per (dn (zs.map (ce (look r.ss)))) a l H:=by
 haveI hc:∃H',gL ⟨l,H⟩= .ok (.ref H'.length) ⟨l,H'++[.list (zs.filterMap λg=>some (V.int (ce (look r.ss) g)))]⟩/\H<+:H':=by
  unfold gL
  refine fq (n:=a) (ks:=zs) ?_ x (aao hz ∅) (λg=>some (V.int (ce (look r.ss) g))) λg hg Hx hp=> ?_
  ·exists hl.g
   exact dJ x
  ·obtain ⟨bs,hb⟩:=hat g hg
   obtain ⟨s,H',hs,mo,co,hp'⟩:=BQ (hR.pre hp) hO hb (upd (gn ["self"] l) "page" (.int g))
   haveI d1:upd (gn ["self"] l) "page" (.int g) "self" = some (.inst "Room" ri):=gh ∅ ∅ hl.s
   exact ⟨_,cZ (H2:=Hx) rfl (by exists d1,bw (hR.pre hp),dh (hR.pre hp) hs,mo,co),hp'⟩
 obtain ⟨H2,hc,p2⟩:=hc
 generalize e3:H2++[O.list (zs.filterMap λg=>some (V.int (ce (look r.ss) g)))]=H3 at hc
 haveI x3:H3[H2.length]? = some (.list ((zs.map (ce (look r.ss))).map V.int)):=by rw [<- e3];simp [Function.comp_def]
 haveI hsum:=Cl (l:=l) x3 (by rw [aad];exact aao hz ∅)
 generalize el:upd l "many" (.int (dn (zs.map (ce (look r.ss)))))=l3
 exact ⟨l3,H3,(by exists hc,hsum,el),hl.upd el ∅ ∅ ∅ ∅,ay el,p2.trans ⟨_,e3⟩⟩
theorem Jb {z per m:Int} {a:Nat} {l:bp} (hl:GV ri z per a l) (hm:l "many" = some (.int m)) (x:H[a]? = some (.list ((bh r.p (look r.ss) z).map V.int))) (hz:(bh r.p (look r.ss) z).length<=40) (hat:Jr (look r.ss) z (bh r.p (look r.ss) z)):G4 ri z per m a (bU r.p (look r.ss) z) l H:=by
 generalize ezs:bh r.p (look r.ss) z=zs at *
 haveI hc:∃H',gM ⟨l,H⟩= .ok (.ref H'.length) ⟨l,H'++[.list (zs.filterMap λg=>some (aw (-ce (look r.ss) g,g)))]⟩/\H<+:H':=by
  unfold gM
  refine fq (n:=a) (ks:=zs) ?_ x (aao hz ∅) (λg=>some (aw (-ce (look r.ss) g,g))) λg hg Hx hp=> ?_
  ·exists hl.g
   exact dJ x
  ·obtain ⟨bs,hb⟩:=hat g hg
   obtain ⟨s,H',hs,mo,co,hp'⟩:=BQ (hR.pre hp) hO hb (upd (gn ["self"] l) "page" (.int g))
   haveI d1:upd (gn ["self"] l) "page" (.int g) "self" = some (.inst "Room" ri):=gh ∅ ∅ hl.s
   exact ⟨_,cZ (H2:=Hx) rfl (by exists d1,bw (hR.pre hp),dh (hR.pre hp) hs,mo,co),hp'⟩
 obtain ⟨H4,hc,p4⟩:=hc
 generalize e5:H4++[O.list (zs.filterMap λg=>some (aw (-ce (look r.ss) g,g)))]=H5 at hc
 haveI x5:H5[H4.length]? = some (.list ((zs.map λg=>(-ce (look r.ss) g,g)).map aw)):=by rw [<- e5];simp [Function.comp_def]
 haveI hsrt:=iP (l:=l) x5 (by rw [aad];exact Nat.lt_of_le_of_lt hz ∅)
 haveI ernk:jt (zs.map λg=>(-ce (look r.ss) g,g))=bU r.p (look r.ss) z:=by unfold bU;rw [ezs]
 rw [ernk] at hsrt
 generalize e6:H5++[O.list ((bU r.p (look r.ss) z).map aw)]=H6 at hsrt
 generalize el:upd l "ranks" (.ref H5.length)=l4
 exact ⟨l4,H6,H5.length,(by exists hc,hsrt,el),hl.upd el ∅ ∅ ∅ ∅,ah el ∅ hm,ay el,(p4.trans ⟨_,e5⟩).trans ⟨_,e6⟩,by rw [<- e6];simp⟩
omit hR in
theorem HK {z:Int} {a n:Nat} {l:bp} (u1:1<=r.len.fdiv z) (hl:GV ri z (r.len.fdiv z) a l) (hm:l "many" = some (.int (dn ((bh r.p (look r.ss) z).map (ce (look r.ss)))))) (hk:l "ranks" = some (.ref n)) (x:H[n]? = some (.list ((bU r.p (look r.ss) z).map aw))) (hrl:(bU r.p (look r.ss) z).length<=40) :
  G6 ri z (r.len.fdiv z) a (aD r.p r.len (look r.ss) z) l H:=by
 haveI hned:=gk (p:=r.p) (F:=look r.ss) u1
 haveI htk:=Ih (l:=l) x (aao hrl ∅) hned
 haveI ened:(dn ((bh r.p (look r.ss) z).map (ce (look r.ss)))+r.len.fdiv z-1).fdiv (r.len.fdiv z)=aV r.p r.len (look r.ss) z:=rfl
 haveI esty:cD (((bU r.p (look r.ss) z).take (aV r.p r.len (look r.ss) z).toNat).map (·.2))=aD r.p r.len (look r.ss) z:=rfl
 generalize aV r.p r.len (look r.ss) z=nd at *
 generalize etk:(bU r.p (look r.ss) z).take nd.toNat=tk at *
 have htl:tk.length<=40:=by rw [<- etk,abc];exact aao (Nat.min_le_right _ _) hrl
 generalize e7:H++[O.list (tk.map aw)]=H7 at htk
 have x7:H7[H.length]? = some (.list (tk.map aw)):=by rw [<- e7];simp
 generalize dn ((bh r.p (look r.ss) z).map (ce (look r.ss)))=m at *
 generalize aD r.p r.len (look r.ss) z=stay at *
 haveI hc3:gN ⟨l,H⟩= .ok (.ref H7.length) ⟨l,H7++[.list ((tk.map (·.2)).map V.int)]⟩:=by
  unfold gN
  refine tM (n:=H.length) (ps:=tk) ?_ x7 (aao htl ∅) λp=> ?_
  ·haveI dv:∀q,cT (.int (m+r.len.fdiv z-1)) (.int (r.len.fdiv z)) q= .ok (.int nd) q:=λq=>fN (λh=>by rw [h] at u1;exact absurd u1 ∅) ened
   exists hl.p,hm,hk,dv,htk,mJ x7
  ·haveI hit:∀q,aJ (aw p) (.int 1) q= .ok (.int p.2) q:=λq=>rfl
   exact cZ (H2:=H7) rfl (by exists hit)
 generalize e8:H7++[O.list ((tk.map (·.2)).map V.int)]=H8 at hc3
 haveI x8:H8[H7.length]? = some (.list ((tk.map (·.2)).map V.int)):=by rw [<- e8];simp
 haveI hso:=oO (l:=l) x8 (by rw [aad];exact Nat.lt_of_le_of_lt htl ∅)
 rw [esty] at hso
 generalize e9:H8++[O.list (stay.map V.int)]=H9 at hso
 haveI x9:H9[H8.length]? = some (.list (stay.map V.int)):=by rw [<- e9];simp
 generalize el5:upd l "stay" (.ref H8.length)=l5
 haveI t5:gV ⟨l,H⟩= .ok .next ⟨l5,H9⟩:=by exists hc3,hso,el5
 generalize ea:H9++[O.list []]=Ha
 generalize el6:upd l5 "moves" (.ref H9.length)=l6
 haveI t6:gW ⟨l5,H9⟩= .ok .next ⟨l6,Ha⟩:=by exists el6,ea
 haveI g5:=hl.upd el5 ∅ ∅ ∅ ∅
 have g6:=g5.upd el6 ∅ ∅ ∅ ∅
 have q1:H<+:H8:=List.IsPrefix.trans ⟨_,e7⟩ ⟨_,e8⟩
 exact ⟨l5,l6,H9,Ha,H8.length,t5,t6,⟨g6.s,g6.z,ah el6 ∅ (ay el5),ay el6,g6.g⟩,(q1.trans ⟨_,e9⟩).trans ⟨_,ea⟩,aA ⟨_,ea⟩ x9,by rw [<- ea];simp,q1.length_le,by rw [<- e9];simp,by rw [<- ea];simp⟩
end
inductive Gt (Ha:Hp) (ri:Nat) (r:Rm) (z:Int) (F:Vw) (stay zs:List Int) (a b c:Nat) (Mt:List (Int×Int)) (Ft:Vw) (Ct:List Int) (rem:List V) (q:S):Prop
 | mk (ys:List Int) (r':Rm) (acc:List (Int×Int)) (e:rem=ys.map V.int) (w:∀y∈ys,y∈zs) (i:GI Ha ri r z F stay zs a b c Mt Ft Ct (bR F stay ys) q.H r' acc) (l:GL ri z a b c q.l)
inductive Gu (H7:Hp) (ri:Nat) (r7:Rm) (z:Int) (Ft:Vw) (stay zs:List Int) (a b c:Nat) (acc:List (Int×Int)) (rem:List V) (q:S):Prop
 | mk (ys:List Int) (e:rem=ys.map V.int) (w:∀y∈ys,y∈zs) (i:Hw H7 ri r7 (dE Ft (zs.filter λg => !decide (g∈stay))) (ys.filter λg => !decide (g∈stay)) q) (l:GL ri z a b c q.l) (x:q.H[a]? = some (.list (zs.map V.int))) (y:q.H[b]? = some (.list (stay.map V.int))) (k:q.H[c]? = some (.list (acc.map aw)))
section
variable {Ha:Hp} {ri:Nat} {r:Rm} {z:Int} {F:Vw} {stay zs:List Int} {a b c:Nat} {Mt:List (Int×Int)} {Ft:Vw} {Ct:List Int}
theorem HM (hA:GA ri r a b c) (hst:stay.length<=40) (hown:∀i∈c::r.own ri,i<Ha.length) (hat:Jr F z zs) {x:V} {rem:List V} {q:S} (h:Gt Ha ri r z F stay zs a b c Mt Ft Ct (x::rem) q) :
  ∃q',(aL "page" x).b (λ_=>eZ) q= .ok .next q'/\av (.ref a) q'.H=some (zs.map V.int)/\Gt Ha ri r z F stay zs a b c Mt Ft Ct rem q':=by
 obtain ⟨l,Hq⟩:=q
 cases h with
 | mk ys r' acc e w1 w2 w3 =>
 cases ys with
 | nil=>simp at e
 | cons g ys =>
  obtain ⟨rfl,rfl⟩:x= .int g/\rem=ys.map V.int:=by simpa using e
  obtain ⟨l',H',r'',acc',v1,v2,v3,v4⟩:=En hA hst w2 w3 (λi hi=>aa9 (hown i hi) w2.chg.len) (hat g (w1 g (.head _)))
  exact ⟨⟨l',H'⟩,v1,bX v2.ha,ys,r'',acc',rfl,λy hy=>w1 y (.tail _ hy),v2,v3⟩
theorem HN {H7:Hp} {r7:Rm} {acc:List (Int×Int)} {x:V} {rem:List V} {q:S} (h:Gu H7 ri r7 z Ft stay zs a b c acc (x::rem) q) :
  ∃q',(aL "page" x).b (λ_=>gI) q= .ok .next q'/\av (.ref a) q'.H=some (zs.map V.int)/\Gu H7 ri r7 z Ft stay zs a b c acc rem q':=by
 obtain ⟨l,Hq⟩:=q
 cases h with
 | mk ys e w0 w1 w2 w3 w4 w5 =>
 cases ys with
 | nil=>simp at e
 | cons g ys =>
  obtain ⟨rfl,rfl⟩:x= .int g/\rem=ys.map V.int:=by simpa using e
  have hl1:=w2.upd (x := "page") (v:= .int g) (.inl rfl)
  generalize el1:upd l "page" (.int g)=l1 at hl1
  have hp1:l1 "page" = some (.int g):=ay el1
  have hin:tY (.int g) (.ref b) ⟨l1,Hq⟩= .ok (decide (g∈stay)) ⟨l1,Hq⟩:=nN (q:=⟨l1,Hq⟩) w4
  have st1:=hl1.2.2.1
  by_cases hg:g∈stay
  ·rw [decide_eq_true hg] at hin
   rw [aaG (by simp [hg])] at w1
   exact ⟨⟨l1,Hq⟩,(by exists el1,hp1,st1,hin),bX w3,ys,rfl,λy hy=>w0 y (.tail _ hy),w1,hl1,w3,w4,w5⟩
  ·rw [decide_eq_false hg] at hin
   rw [aaL (by simp [hg])] at w1
   haveI w1':Hw H7 ri r7 (dE Ft (zs.filter λg => !decide (g∈stay))) (g::ys.filter λg => !decide (g∈stay)) ⟨l1,Hq⟩:=w1
   obtain ⟨v,H',k1,k2,k3,k4,k5⟩:=w1'.pop
   obtain ⟨rp,hrp,_,hrsm,_⟩:=w1
   have hne:∀ {i:Nat} {xs:List V},Hq[i]? = some (.list xs)->i∉[r7.d]:=λ{i xs} hi hm=>by
    rw [aaj.mp hm,<- hrsm.d,hrp.racks] at hi;cases hi
   haveI se1:=hl1.1
   exact ⟨⟨l1,H'⟩,(by exists el1,hp1,se1,st1,hin,k4,k1,k2),bX (k5.get w3 (hne w3)),ys,rfl,λy hy=>w0 y (.tail _ hy),k3 _,hl1,k5.get w3 (hne w3),k5.get w4 (hne w4),k5.get w5 (hne w5)⟩
end
section
variable {H:Hp} {ri:Nat} {r:Rm} (hR:aI H ri r) (hO:r.Ok)
include hR hO
theorem vw {z:Int} (hzx:z∈r.xs):∃n r' H',Ke (eS [.inst "Room" ri,.int z] H= .ok (.ref n) H') (H.length<=n) (H'[n]? = some (.list ((eO r.p r.len (look r.ss) z).map aw))) (aI H' ri r') r'.Ok (r.Sm r') (look r'.ss=eK r.p r.len (look r.ss) z) (cA (r.own ri) H H') (∀i∈r'.own ri,i∈r.own ri) ((eO r.p r.len (look r.ss) z).length<=50000) (r'.cs=D5 z r.cs (eO r.p r.len (look r.ss) z)):=by
 refine nH λG kG=> ?_
 obtain ⟨u1,u2⟩:=rc hR hO hzx
 have hp40:=hO.p.2
 have hat:Jr (look r.ss) z (bh r.p (look r.ss) z):=λg hg=>j8 hg
 haveI hslots:∀g v,look r.ss g=some v->v.1=z->(v.2.length:Int)=r.len.fdiv z:=λg v hv hz=>by
  obtain ⟨s,hs,y1,y2⟩:=bB hv
  rw [<- y2,<- hz,<- y1]
  exact hO.slots s (aS hs).1
 haveI hokk:=xK (p:=r.p) hslots u1
 have hzl:=Af r.p hp40 (look r.ss) z
 have hrl:(bU r.p (look r.ss) z).length<=40:=by
  haveI h1:=(di (p:=r.p) (F:=look r.ss) (z:=z)).length_eq
  rw [aad] at h1;exact aao (Nat.le_of_eq h1) hzl
 haveI hstl:=Fo (len:=r.len) (z:=z) hp40 (F:=look r.ss)
 haveI hstin:∀g∈aD r.p r.len (look r.ss) z,g∈bh r.p (look r.ss) z:=λg hg=>iq hg
 cases HJ hR hO hzx with
 | mk l1 l2 H1 a t1 t2 g2 p1 x1 ha =>
 cases Ja (hR.pre p1) hO g2 x1 hzl hat with
 | mk l3 H3 t3 g3 m3 p3 =>
 cases Jb (hR.pre (p1.trans p3)) hO g3 m3 (aA p3 x1) hzl hat with
 | mk l4 H6 n4 t4 g4 m4 k4 p4 x4 =>
 cases HK hO u1 g4 m4 k4 x4 hrl with
 | mk l5 l6 H9 Ha b t5 t6 gl p6 xb xc nb nc na =>
 have P1a:H1<+:Ha:=(p3.trans p4).trans p6
 have P0a:H<+:Ha:=p1.trans P1a
 have xa:=aA P1a x1
 have aH1:a<H1.length:=(aaa.mp x1).1
 have lt4:H1.length<=H6.length:=(p3.trans p4).length_le
 have l01:=p1.length_le
 have olt:=uB hR
 haveI plt:=(aaa.mp hR.plan).1
 haveI mlt:=(aaa.mp hR.sizes).1
 haveI hA:GA ri r a b H9.length:=⟨by exact λx9=>zI 0x9096322104014311211110015 nb nc aH1 lt4 x9,by exact λx9=>cu 0x9096012110112 nc x9,λh=>by haveI:=olt _ h;exact id (fu [_,_,_,_,_,_] [] 0x90960411250151114311320110016 ha nb nc aH1 lt4 this),by exact λx9=>fu [_,_,_,_,_,_,_] [] 0x909664210611250151114311320110017 ha nb nc aH1 lt4 plt x9,by exact λx9=>fu [_,_,_,_,_,_,_] [] 0x909664210611250151114311320110017 ha nb nc aH1 lt4 mlt x9,λh=>by haveI:=olt _ h;exact id (cu 0x9096011110012 ha this),λh=>by haveI:=olt _ h;exact id (zI 0x9096031124014111320110015 ha nb aH1 lt4 this)⟩
 haveI hown:∀i∈H9.length::r.own ri,i<Ha.length:=λi hi=>by
  rcases aai.mp hi with rfl | hi
  ·exact na
  ·haveI:=olt i hi;exact id (fu [_,_,_,_,_,_,_] [] 0x3615611450104013211211110016 nb nc na lt4 l01 this)
 haveI hits:(bR (look r.ss) (aD r.p r.len (look r.ss) z) (bh r.p (look r.ss) z)).length<=(bh r.p (look r.ss) z).length*1000:=Ey _ _ 1000 (λg=>by
  unfold bZ
  split
  ·rename_i v hv
   obtain ⟨s,hs,_,y2⟩:=bB hv
   rw [<- y2]
   exact aao List.count_le_length (hO.bslen (aS hs).1)
  ·exact Nat.zero_le _) _
 haveI eGM:eO r.p r.len (look r.ss) z=(cX r.len z (aD r.p r.len (look r.ss) z) (look r.ss) (bR (look r.ss) (aD r.p r.len (look r.ss) z) (bh r.p (look r.ss) z))).1:=rfl
 haveI eGF:eK r.p r.len (look r.ss) z=dE (cX r.len z (aD r.p r.len (look r.ss) z) (look r.ss) (bR (look r.ss) (aD r.p r.len (look r.ss) z) (bh r.p (look r.ss) z))).2 ((bh r.p (look r.ss) z).filter λg => !decide (g∈aD r.p r.len (look r.ss) z)):=rfl
 haveI zn:(bh r.p (look r.ss) z).Nodup:=jd
 rw [eGM,eGF] at kG
 generalize aD r.p r.len (look r.ss) z=stay at *
 generalize bh r.p (look r.ss) z=zs at *
 generalize eM:(cX r.len z stay (look r.ss) (bR (look r.ss) stay zs)).1=Mt at *
 generalize eFt:(cX r.len z stay (look r.ss) (bR (look r.ss) stay zs)).2=Ft at *
 haveI gi0:GI Ha ri r z (look r.ss) stay zs a b H9.length Mt Ft (D5 z r.cs Mt) (bR (look r.ss) stay zs) Ha r [] :=
  ⟨hR.pre P0a,hO,Rm.Sm.rfl r,λx _=>rfl,λx hx=>hat x (hstin x hx),hokk,eM,eFt,xc,xa,xb,cA.refl _ _,rfl,by simp;exact aao hits (aao (Nat.mul_le_mul_right 1000 hzl) ∅),by rw [eM]⟩
 obtain ⟨q7,hq7,gt7⟩:=fM (g:=λH'=>av (.ref a) H'=some (zs.map V.int)) (bd:=aL "page") (body:=eZ) (Gt Ha ri r z (look r.ss) stay zs a b H9.length Mt Ft (D5 z r.cs Mt)) (λx rem q h=>HM hA hstl hown hat h) _ ⟨l6,Ha⟩ ⟨zs,r,[],rfl,λy hy=>hy,gi0,gl⟩
 obtain ⟨l7,H7⟩:=q7
 cases gt7 with
 | mk ys r7 acc ey _ gi7 gl7 =>
 cases ys with
 | cons _ _=>simp at ey
 | nil =>
 haveI t7:lR ⟨l6,Ha⟩= .ok .next ⟨l7,H7⟩:=bq (bq (g_get gl.2.2.2.2) (dJ xa)) hq7
 have em:acc=Mt:=by haveI:=gi7.m;simpa [bR,wN] using this
 haveI ef:look r7.ss=Ft:=by haveI:=gi7.f;simpa [bR,wN] using this
 haveI ec:r7.cs=D5 z r.cs Mt:=gi7.cl
 obtain ⟨q8,hq8,gu8⟩:=fM (g:=λH'=>av (.ref a) H'=some (zs.map V.int)) (bd:=aL "page") (body:=gI) (Gu H7 ri r7 z Ft stay zs a b H9.length acc) (λx rem q h=>HN h) _ ⟨l7,H7⟩ ⟨zs,rfl,λy hy=>hy,⟨r7,gi7.at',gi7.ok,Rm.Sm.rfl r7,by rw [ef],zn.filter _,λg hg=>by
    obtain ⟨h1,h2⟩:=aaz.mp hg
    obtain ⟨bs,hb⟩:=hat g h1
    exact ⟨_,by rw [gi7.off g (by simpa using h2)];exact hb⟩,cA.refl _ _,λi hi=>hi,rfl⟩,gl7,gi7.ha,gi7.hb,gi7.hc⟩
 obtain ⟨l8,H8⟩:=q8
 cases gu8 with
 | mk ys8 ey8 _ pp8 gl8 z1 z2 z3 =>
 cases ys8 with
 | cons _ _=>simp at ey8
 | nil =>
 obtain ⟨r8,g1,g2,g3,g4,_,_,g7,g8,g9⟩:=pp8
 rw [List.filter_nil,qi] at g4
 haveI t8:lS ⟨l7,H7⟩= .ok .next ⟨l8,H8⟩:=bq (bq (g_get gl7.2.2.2.2) (dJ gi7.ha)) hq8
 haveI few:=gi7.few
 refine kG ⟨H9.length,r8,H8,bg (m:=oH) (q:=⟨l8,H8⟩) rfl (ak t1 (ak t2 (ak t3 (ak t4 (ak t5 (ak t6 (ak t7 (ak t8 (bq (g_get gl8.2.2.2.1) rfl))))))))),by exact zI 0x24034010301211110014 nb nc lt4 l01,em▸z3,g1,g2,gi7.sm.trans g3,g4,?_,λi hi=>gi7.own▸g8 i hi,by rw [<- em];exact id (cu 0xc350a0000c350a10c011 few),g9.trans ec⟩
 haveI h1:cA (r.own ri) H H7:=(cA.pre P0a).trans' gi7.chg λi hi=>by
  rcases aai.mp hi with rfl | hi
  ·exact .inr (by exact zI 0x24034010301211110014 nb nc lt4 l01)
  ·exact .inl hi
 exact h1.trans (by rw [gi7.own] at g7;exact g7)
end
theorem Dc {H:Hp} {za:Nat} {xs:List Int} (hz:H[za]? = some (.list (xs.map V.int))) (w:Int):jC [.ref za,.int w] H= .ok (.int ((xs.find? λx=>decide (x>=w)).getD 0)) H:=by
 obtain ⟨l0,e0,a1,a2⟩:∃l0,a9 ["_law_sizes", "_law_wish"] [.ref za,.int w]=l0/\l0 "_law_sizes" = some (.ref za)/\l0 "_law_wish" = some (.int w):=⟨_,rfl,rfl,rfl⟩
 have hit:av (.ref za) H=some (xs.map V.int):=bX hz
 obtain ⟨l',hw',hl⟩:=nz H (g:=λH=>av (.ref za) H=some (xs.map V.int)) (x := "_law_size") (w := "_law_wish") ∅ (body:=gK) w hit
  (λl y h1 h2=>by
   by_cases hy:y>=w
   ·rw [if_pos hy];exact bq (bq (g_get h1) (bq (g_get h2) rfl)) (it_t (decide_eq_true hy) (bq (g_get h1) rfl))
   ·rw [if_neg hy];exact bq (bq (g_get h1) (bq (g_get h2) rfl)) (it_f (decide_eq_false hy) rfl)) xs l0 a2
 have s2:lY ⟨l0,H⟩=df (λH=>av (.ref za) H=some (xs.map V.int)) (aL "_law_size") (gK) (xs.map V.int) ⟨l0,H⟩ :=
  bq (bq (g_get a1) (by rw [rd,hit])) rfl
 rw [hl] at s2
 cases hf:xs.find? (λx=>decide (x>=w)) with
 | some y =>
  rw [hf] at s2
  exact bg (m:=jE) (q:=⟨l',H⟩) rfl (by rw [e0];exact fS s2)
 | none =>
  rw [hf] at s2
  exact bg (m:=jE) (q:=⟨l',H⟩) rfl (by rw [e0];exact ak s2 rfl)
theorem Ed {p:Int} {F:Vw} {g:Int} (h:g∈o7 p F):(0<=g/\g<p)/\ ∃v,F g=some v:=by
 have:=(aaz.mp h).1
 exact ⟨(iJ.mp this).1,mK this⟩
theorem DU {p:Int} {F:Vw} {g:Int} (h:g∈FW p F):(0<=g/\g<p)/\F g=none:=by
 obtain ⟨h1,h2⟩:=aaz.mp h
 exact ⟨bV.mp h1,by simpa using h2⟩
theorem nX (F:Vw) (g:Int) (v w:Option (Int×List Bool)):cS (cS F g v) g w=cS F g w:=by
 funext x
 by_cases e:x=g<;>simp [cS,e]
theorem Do (F:Vw) (g:Int) (l:List Int):cS (dE F l) g none=dE F (g::l):=by
 funext x
 unfold dE cS
 by_cases h1:x=g<;>simp [h1]
theorem xP (F:Vw) (stay:List Int):∀zs:List Int,bR F stay zs=(zs.filter λg => !decide (g∈stay)).flatMap (uc F)
 | []=>rfl
 | g::zs=>by
  haveI ih:=xP F stay zs
  unfold bR at ih ⊢
  rw [aaW,ih]
  by_cases h:g∈stay
  ·rw [if_pos h,aaG (by simp [h])];rfl
  ·rw [if_neg h,aaL (by simp [h]),aaW]
inductive Pl:V->Prop
 | int (i:Int):Pl (.int i)
 | tup (is:List Int):Pl (.tup (is.map V.int))
noncomputable def D9:V->PyData
 | .int i=> .int i
 | _=> .none
noncomputable def vB:V->PyData
 | .int i=> .int i
 | .tup vs=> .tuple (vs.map D9)
 | _=> .none
theorem qO (is:List Int):(is.map V.int).map D9=is.map PyData.int:=by rw [aaV];rfl
theorem Pl.toD {v:V} (h:Pl v) (H:Hp) (n:Nat):Mine.Lake.toD H (n+2) v=some (vB v):=by
 cases h with
 | int i=>rfl
 | tup is =>
  show (dt (Mine.Lake.toD H (n+1)) (is.map V.int)).map PyData.tuple=some (.tuple ((is.map V.int).map D9))
  rw [qD,qO];rfl
theorem Pl.sh {v:V} (h:Pl v):Sh 1 (vB v):=by
 cases h with
 | int i=>exact uR _ i
 | tup is =>
  refine zZ λd hd=> ?_
  rw [qO] at hd
  obtain ⟨i,_,rfl⟩:=aaf.mp hd
  exact uR _ _
theorem Pl.eqv {v:V} (h:Pl v):PyData.eqv (vB v) (vB v)=true:=by
 cases h with
 | int i=>exact (nI i i).trans (decide_eq_true rfl)
 | tup is =>
  show PyData.eqv (.tuple ((is.map V.int).map D9)) (.tuple ((is.map V.int).map D9))=true
  rw [qO]
  rw [BM,pb PyData.int nI];exact decide_eq_true rfl
theorem xX {H:Hp} {n:Nat}:∀ {vs:List V},(∀v∈vs,Pl v)->dt (toD H (n+2)) vs=some (vs.map vB)
 | [],_=>rfl
 | v::vs,h=>by rw [De,(h v (.head _)).toD H n,xX λv hv=>h v (.tail _ hv)];rfl
theorem EY:∀ {vs:List V},(∀v∈vs,Pl v)->PyData.eqvAll (vs.map vB) (vs.map vB)=true
 | [],_=>rfl
 | v::vs,h=>by rw [aaq,mC,(h v (.head _)).eqv,EY λv hv=>h v (.tail _ hv)];rfl
structure Rf (H:Hp) (a b:Nat) (vs:List V):Prop where
 a:H[a]? = some (.list vs)
 b:H[b]? = some (.list vs)
 pl:∀v∈vs,Pl v
theorem tC {H:Hp} {n i:Nat} {xs:List V} {ds:List PyData} (h:H[i]? = some (.list xs)) (hd:dt (toD H n) xs=some ds):toD H (n+1) (.ref i)=some (.list ds):=by
 show (match H[i]? with | some (.list xs)=>(dt (toD H n) xs).map PyData.list | _=>none)=_
 rw [h];dsimp only;rw [hd];rfl
theorem Bj {vs:List V} (h:∀v∈vs,Pl v):Sh 2 (.list (vs.map vB)):=yp λd hd=>by
 obtain ⟨v,hv,rfl⟩:=aaf.mp hd
 exact (h v hv).sh
theorem F2 {vs:List V} (h:∀v∈vs,Pl v):PyData.eqv (.list (vs.map vB)) (.list (vs.map vB))=true:=by
 exact EY h
theorem I6 {H:Hp} {l:bp} {v w:V} {d:PyData} (h1:toD H 8 v=some d) (h2:toD H 8 w=some d) {n:Nat} (h3:Sh n d) (hn:n<=64) (h4:PyData.eqv d d=true):nZ v w ⟨l,H⟩= .ok true ⟨l,H⟩:=by
 unfold nZ FR;rw [h1,h2,abe,abe,h3.shaped hn,h4];rfl
theorem Eh {H:Hp} {l:bp} {a b:Nat} {vs:List V} (h:Rf H a b vs):nZ (.ref a) (.ref b) ⟨l,H⟩= .ok true ⟨l,H⟩ :=
 I6 (tC h.a (xX h.pl)) (tC h.b (xX h.pl)) (Bj h.pl) ∅ (F2 h.pl)
theorem bJ {H:Hp} {i:Nat} {o:O} (h:H[i]? = some o):i<H.length:=(aaa.mp h).1
structure FQ (c:Nat) (col:Nat->Nat) (F:List Nat) (H:Hp) (col':Nat->Nat) (H':Hp):Prop where
 chg:cA F H H'
 on:∀i∈F,i<H.length->col i=c
 col:∀i,i<H.length->col' i=col i
noncomputable def iQ (col:Nat->Nat) (n c:Nat) (O:List Nat):Nat->Nat:=λi=>if i<n then col i else if i∈O then c else 0
theorem iR {col:Nat->Nat} {n c:Nat} {O:List Nat} {i:Nat} (h:i<n):iQ col n c O i=col i:=if_pos h
theorem zS {col:Nat->Nat} {n c:Nat} {O:List Nat} {i:Nat} (h:¬i<n) (hO:i∈O):iQ col n c O i=c:=(if_neg h).trans (if_pos hO)
theorem FQ.get {c:Nat} {col col':Nat->Nat} {F:List Nat} {H H':Hp} (e:FQ c col F H col' H') {i:Nat} {o:O} (h:H[i]? = some o) (hn:col i≠c):H'[i]? = some o/\col' i=col i :=
 ⟨e.chg.get h λhi=>hn (e.on i hi (bJ h)),e.col i (bJ h)⟩
structure RG (c:Nat) (col:Nat->Nat) (H:Hp) (p len:Int) (xs:List Int) (ri:Nat) (r:Rm):Prop where
 rm:aI H ri r
 ok:r.Ok
 rp:r.p=p
 rl:r.len=len
 rx:r.xs=xs
 cr:∀i∈r.own ri,col i=c
 cp:col r.pl=0
 cs:col r.m=0
section
variable {c c':Nat} {col col':Nat->Nat} {F:List Nat} {H H':Hp} {p len:Int} {xs:List Int} {ri d k:Nat} {r:Rm} {ms:List bH} {ks:List (Nat×Nat)}
theorem RG.frame (h:RG c col H p len xs ri r) (e:FQ c' col F H col' H') (h1:c≠c') (h2:0≠c'):RG c col' H' p len xs ri r:=by
 have pl:=bJ h.rm.plan
 have m:=bJ h.rm.sizes
 have nF:∀ {i},i<H.length->col i≠c'->i∉F:=λhi hn hF=>hn (e.on _ hF hi)
 refine ⟨h.rm.chg e.chg λi hi=> ?_,h.ok,h.rp,h.rl,h.rx,λi hi=>(e.col i (uB h.rm i hi)).trans (h.cr i hi),(e.col _ pl).trans h.cp,(e.col _ m).trans h.cs⟩
 rcases BJ i hi with hi | hi | hi
 ·exact nF (uB h.rm i hi) (by rw [h.cr i hi];exact h1)
 ·rw [hi];exact nF pl (by rw [h.cp];exact h2)
 ·rw [hi];exact nF m (by rw [h.cs];exact h2)
theorem RG.step (h:RG c col H p len xs ri r) {r':Rm} (a:aI H' ri r') (ok:r'.Ok) (sm:r.Sm r') (ch:cA (r.own ri) H H') (ow:∀i∈r'.own ri,i∈r.own ri\/H.length<=i) :
  RG c (iQ col H.length c (r'.own ri)) H' p len xs ri r'/\FQ c col (r.own ri) H (iQ col H.length c (r'.own ri)) H':=by
 refine ⟨⟨a,ok,sm.p.trans h.rp,sm.len.trans h.rl,sm.xs.trans h.rx,λi hi=> ?_,?_,?_⟩,⟨ch,λi hi _=>h.cr i hi,λi hi=>iR hi⟩⟩
 ·by_cases hl:i<H.length
  ·rw [iR hl]
   exact (ow i hi).elim (h.cr i) λh=>absurd hl (Nat.not_lt.mpr h)
  ·exact zS hl hi
 ·rw [sm.pl,iR (bJ h.rm.plan)];exact h.cp
 ·rw [sm.m,iR (bJ h.rm.sizes)];exact h.cs
structure yH (c:Nat) (col:Nat->Nat) (H:Hp) (col':Nat->Nat) (H':Hp):Prop where
 len:H.length<=H'.length
 same:∀i,i<H.length->col i<c\/c+3<=col i->H'[i]? = H[i]?
 col:∀i,i<H.length->col' i=col i
theorem yH.refl (c:Nat) (col:Nat->Nat) (H:Hp):yH c col H col H:=⟨aaK _,λ_ _ _=>rfl,λ_ _=>rfl⟩
theorem yH.trans {col2:Nat->Nat} {H2:Hp} (a:yH c col H col' H') (b:yH c col' H' col2 H2):yH c col H col2 H2 :=
 ⟨aao a.len b.len,λi hi h=>(b.same i (aa9 hi a.len) (by rw [a.col i hi];exact h)).trans (a.same i hi h),λi hi=>(b.col i (aa9 hi a.len)).trans (a.col i hi)⟩
theorem FQ.evo (e:FQ c' col F H col' H') (h:c<=c'/\c'<c+3):yH c col H col' H' :=
 ⟨e.chg.len,λi hi ho=>e.chg.same i hi λhF=>by have:=e.on i hF hi;exact ho.elim (λq=>absurd q (Nat.not_lt.mpr (this▸h.1))) λq=>absurd h.2 (Nat.not_lt.mpr (this▸q)),e.col⟩
theorem yH.get (e:yH c col H col' H') (h1:1<=c) {i:Nat} {o:O} (h:H[i]? = some o) (hn:col i=0):H'[i]? = some o/\col' i=0 :=
 ⟨(e.same i (bJ h) (.inl (by rw [hn];exact h1))).trans h,(e.col i (bJ h)).trans hn⟩
end
theorem I9 {m:Cm Fl} {sel:String->Cm Fl} {q q':S} {f:Fl} (h:m q= .ok f q'):Du m sel q= .ok f q':=by rw [Hg,h]
theorem El {m:Cm Fl} {sel:String->Cm Fl} {q q' q2:S} {f:Fl} {c:String} (h:m q= .exc c q') (k:sel c q'= .ok f q2):Du m sel q= .ok f q2:=by rw [Hg,h];dsimp only;rw [k]
theorem xN {H:Hp} {l:bp} {n:Nat} {vs:List V} {i:Int} {v:V} (h:H[n]? = some (.list vs)) (h0:0<=i) (h1:i<1000000) (hv:vs[i.toNat]? = some v):aJ (.ref n) (.int i) ⟨l,H⟩= .ok v ⟨l,H⟩:=by
 exact xO h ⟨h0,h1⟩ hv
theorem Gs (e:Int×Int):Pl (aw e):= .tup [e.1,e.2]
theorem mV (es:List (Int×Int)):∀v∈es.map aw,Pl v:=λv hv=>by
 obtain ⟨e,_,rfl⟩:=aaf.mp hv
 exact Gs e
theorem qR {H:Hp} {l:bp} {n:Nat} {vs:List V} (h:H[n]? = some (.list vs)) (hp:∀v∈vs,Pl v):nZ (.ref n) (.ref H.length) ⟨l,H++[.list []]⟩= .ok vs.isEmpty ⟨l,H++[.list []]⟩:=by
 have t1:=tC (aA (H':=H++[.list []]) ⟨_,rfl⟩ h) (xX (n:=5) hp)
 haveI t2:toD (H++[.list []]) 8 (.ref H.length)=some (.list []):=tC (aN _ _) rfl
 haveI t3:=(Bj (vs:=[]) (λ_ h=>(nomatch h))).shaped ∅
 rw [List.map_nil] at t3
 unfold nZ FR;rw [t1,t2,abe,abe,(Bj hp).shaped ∅,t3]
 cases vs with
 | nil=>rfl
 | cons v vs=>rfl
theorem gp {p len:Int} {F:Vw} {e:Int×Int} (h:e∈bj p len F):∃(g z:Int) (bs:List Bool) (j:Nat),A3 (F g=some (z,bs)) (bs[j]? = some true) (e=(g*len+j*z,z)):=by
 obtain ⟨g,_,he⟩:=List.mem_flatMap.mp h
 unfold cU at he
 split at he
 ·rename_i v hv
  obtain ⟨kk,hk,rfl⟩:=aaf.mp he
  obtain ⟨j,rfl,hj⟩:=eE v.2 0 kk hk
  exact ⟨g,v.1,v.2,j,hv,hj,by rw [aa1]⟩
 ·cases he
section
variable {c:Nat} {col:Nat->Nat} {H:Hp} {p len cell more:Int} {xs:List Int} {ri d k za:Nat} {r:Rm} {ms:List bH} {ks:List (Nat×Nat)} {l:bp}
theorem xG {ss:List bH} {g z:Int} {bs:List Bool} (h:look ss g=some (z,bs)):∃s,A3 (dL ss g=some s) (s.sz=z) (s.bs=bs):=bB h
end
theorem nL {H:Hp} {l:bp} {i:Nat} {vs:List V} (h:H[i]? = some (.list vs)):fV (.ref i) ⟨l,H⟩= .ok true ⟨l,H⟩:=by rw [xZ,h]
theorem ui:∀ {xs:List Int} {a b:Int},xs.Pairwise (· < ·)->(∀x∈xs,a<x/\x<=b)->a<=b->(xs.length:Int)<=b-a
 | [],a,b,_,_,h=>by simp only [List.length_nil];exact id (pD 0x1e09f810811 h)
 | x::xs,a,b,hp,h,_=>by
  obtain ⟨h1,h2⟩:=aaI.mp hp
  have hx:=h x (.head _)
  haveI:=ui (a:=x) (b:=b) h2 (λy hy=>⟨h1 y hy,(h y (.tail _ hy)).2⟩) hx.2
  rw [aas];exact id (fu [_] [_,_,_] 0x2e190cf812e0f8110912 hx.1 this)
theorem iI {n:Nat} {vs:List V} {l:bp} {H:Hp} (hn:H[n]? = some (.list vs)):cW (.ref n) ⟨l,H⟩= .ok ⟨vs,λH=>av (.ref n) H=some vs⟩ ⟨l,H⟩:=by
 show (match av (.ref n) H with | some xs=>_ | none=>_)=_
 rw [show av (.ref n) H=some vs from bX hn]
theorem dK {n:Nat} {vs:List V} {H:Hp} (hn:H[n]? = some (.list vs)):av (.ref n) H=some vs:=bX hn
structure PB (f s p len:Int) (l:bp):Prop where
 hp:1<=p/\p<=40
 hl:1<=len/\len<=60
 a:l "_law_script" = some .scr
 f:l "_law_first" = some (.int f)
 s:l "_law_second" = some (.int s)
 p:l "_law_pages" = some (.int p)
 n:l "_law_length" = some (.int len)
noncomputable def JU (e a b:Int):Cm Fl:=(((((af "_law_first").b λv23=>(Cm.p (V.int 6)).b λv24=>cT v23 v24).b λv25=>(Cm.p (V.int 8)).b λv26=>bS v25 v26).b λv27=>(Cm.p (V.int e)).b λv28=>(dA .Eq v27 v28).b λx29=>Cm.p x29).b λb42=>if b42 then (aB (((Cm.p (V.int 1)).b λv34=>(((af "_law_first").b λv30=>(Cm.p (V.int 48)).b λv31=>cT v30 v31).b λv32=>(Cm.p (V.int a)).b λv33=>bS v32 v33).b λv35=>dq v34 v35).b λv36=>(aL "_law_pages" v36).b λ_=>Cm.p Fl.next) (((Cm.p (V.int 1)).b λv39=>((af "_law_second").b λv37=>(Cm.p (V.int b)).b λv38=>bS v37 v38).b λv40=>dq v39 v40).b λv41=>(aL "_law_length" v41).b λ_=>Cm.p Fl.next)) else (Cm.p Fl.next))
theorem ER {f s p len:Int} {l:bp} {H:Hp} (h:PB f s p len l) (e a b:Int) (ha:1<=a/\a<=40) (hb:1<=b/\b<=60):∃p' len' l',JU e a b ⟨l,H⟩= .ok .next ⟨l',H⟩/\PB f s p' len' l':=by
 refine nH λG kG=> ?_
 have d6:∀q,cT (.int f) (.int 6) q= .ok (.int (f.fdiv 6)) q:=λq=>fN ∅ rfl
 have m8:∀q,bS (.int (f.fdiv 6)) (.int 8) q= .ok (.int ((f.fdiv 6).fmod 8)) q:=λq=>dX ∅ rfl
 by_cases he:(f.fdiv 6).fmod 8=e
 ·haveI k:decide ((f.fdiv 6).fmod 8=e)=true:=decide_eq_true he
  haveI d48:∀q,cT (.int f) (.int 48) q= .ok (.int (f.fdiv 48)) q:=λq=>fN ∅ rfl
  haveI ma:∀q,bS (.int (f.fdiv 48)) (.int a) q= .ok (.int ((f.fdiv 48).fmod a)) q:=λq=>dX (by exact λx9=>bY 0x9096090a1019812 ha.1 x9) rfl
  haveI mb:∀q,bS (.int s) (.int b) q= .ok (.int (s.fmod b)) q:=λq=>dX (by exact λx9=>bY 0x9096090a1019812 hb.1 x9) rfl
  have r1:=bT (f.fdiv 48) a (by exact bY 0x99019811 ha.1)
  have r2:=bT s b (by exact bY 0x99019811 hb.1)
  refine bz (upd l "_law_pages" (.int (1+(f.fdiv 48).fmod a))) λl1 e1=> ?_
  refine bz (upd l1 "_law_length" (.int (1+s.fmod b))) λl2 e2=> ?_
  have b3:=ah e1 ∅ h.s
  refine kG ⟨_,_,l2,bq (a:=true) (q':=⟨l,H⟩) ?_ (it_t rfl (ak (q':=⟨l1,H⟩) ?_ ?_)),⟨⟨by exact bY 0x19c198009811 r1.1,by exact pD 0x28a119c80191000028a0812 ha.2 r1.2⟩,⟨by exact bY 0x19c198009811 r2.1,by exact pD 0x3ca119c8019100003ca0812 hb.2 r2.2⟩,ah e2 ∅ (ah e1 ∅ h.a),ah e2 ∅ (ah e1 ∅ h.f),ah e2 ∅ b3,ah e2 ∅ (ay e1),ay e2⟩⟩
  ·exists h.f,d6,m8,k
  ·exists h.f,d48,ma,e1
  ·exists b3,mb,e2
 ·haveI k:decide ((f.fdiv 6).fmod 8=e)=false:=decide_eq_false he
  refine kG ⟨p,len,l,bq (a:=false) (q':=⟨l,H⟩) ?_ (it_f rfl rfl),h⟩
  exists h.f,d6,m8,k
theorem Dx:∃(p len:Int) (xs:List Int) (za:Nat) (H':Hp),A7 (jB [.scr] []= .ok (.tup [.int p,.int len,.ref za]) H') (H'[za]? = some (.list (xs.map V.int))) (1<=p/\p<=40) (1<=len/\len<=60) (jO len xs) (xs≠[]) (xs.length<=8):=by
 refine nH λG kG=> ?_
 refine bz (a9 ["_law_script"] [.scr]) λl0 e0=> ?_
 have a0:l0 "_law_script" = some .scr:=e0▸rfl
 obtain ⟨f,hf⟩:=rE [] 0 ∅ ∅
 obtain ⟨s,hs⟩:=rE [] 1 ∅ ∅
 obtain ⟨c2,h2⟩:=rE [] 2 ∅ ∅
 obtain ⟨c3,h3⟩:=rE [] 3 ∅ ∅
 refine bz (upd l0 "_law_first" (.int f)) λl1 e1=> ?_
 refine bz (upd l1 "_law_second" (.int s)) λl2 e2=> ?_
 refine bz (upd l2 "_law_pages" (.int (1+f.fmod 6))) λl3 e3=> ?_
 refine bz (upd l3 "_law_length" (.int (1+s.fmod 12))) λl4 e4=> ?_
 haveI m6:∀q,bS (.int f) (.int 6) q= .ok (.int (f.fmod 6)) q:=λq=>dX ∅ rfl
 haveI m12:∀q,bS (.int s) (.int 12) q= .ok (.int (s.fmod 12)) q:=λq=>dX ∅ rfl
 have r1:=bT f 6 ∅
 have r2:=bT s 12 ∅
 have a1:=ah e1 ∅ a0
 have a2:=ah e2 ∅ (ay e1)
 have a3:=ah e3 ∅ (ay e2)
 haveI t1:lU ⟨l0,[]⟩= .ok .next ⟨l1,[]⟩:=by exists a0,hf,e1
 haveI t2:lV ⟨l1,[]⟩= .ok .next ⟨l2,[]⟩:=by exists a1,hs,e2
 haveI t3:lW ⟨l2,[]⟩= .ok .next ⟨l3,[]⟩:=by exists a2,m6,e3
 haveI t4:lX ⟨l3,[]⟩= .ok .next ⟨l4,[]⟩:=by exists a3,m12,e4
 haveI B4:PB f s (1+f.fmod 6) (1+s.fmod 12) l4:=⟨⟨by exact bY 0x19c198009811 r1.1,by exact bY 0x28a019c8690911 r1.2⟩,⟨by exact bY 0x19c198009811 r2.1,by exact bY 0x3ca019c8c90911 r2.2⟩,ah e4 ∅ (ah e3 ∅ (ah e2 ∅ a1)),ah e4 ∅ (ah e3 ∅ a2),ah e4 ∅ a3,ah e4 ∅ (ay e3),ay e4⟩
 obtain ⟨p5,n5,l5,t5,B5⟩:=ER (H:=[]) B4 1 40 4 ⟨by decide,by decide⟩ ⟨by decide,by decide⟩
 obtain ⟨p6,n6,l6,t6,B6⟩:=ER (H:=[]) B5 2 2 60 ⟨by decide,by decide⟩ ⟨by decide,by decide⟩
 obtain ⟨p,len,l,t7,B⟩:=ER (H:=[]) B6 3 40 60 ⟨by decide,by decide⟩ ⟨by decide,by decide⟩
 haveI m8:∀q,bS (.int c3) (.int 8) q= .ok (.int (c3.fmod 8)) q:=λq=>dX ∅ rfl
 have r3:=bT c3 8 ∅
 obtain ⟨v,H',w1,xs,rfl,w2,w3,w4,w5,w6⟩:=Bp [] c2 len (1+c3.fmod 8) B.hl.1 (by exact bY 0x19c198009811 r3.1) (by exact bY 0x89019c8890911 r3.2)
 refine kG ⟨p,len,xs,_,H',bg (m:=oK) (q:=⟨l,H'⟩) rfl ?_,w3,B.hp,B.hl,w4,w5,w6⟩
 rw [e0]
 refine ak t1 (ak t2 (ak t3 (ak t4 (ak t5 (ak t6 (ak t7 ?_))))))
 exists B.p,B.n,B.a,h2,h3,m8,w1
theorem xH (H T:Hp) (j:Nat):(H++T)[H.length+j]? = T[j]? := by rw [aar (aaQ _ _),aaC]
noncomputable def jq (n pl:Nat) (p len:Int):Hp:=[.flds (roomF pl (n+1) (n+3)),.dict [],.list [.int 0],.list ((List.replicate (p*len).toNat (0:Int)).map V.int)]
theorem IC {H:Hp} {l:bp} {pl m:Nat} {p len:Int} (hpl:H[pl]? = some (.flds (iN p len m))) (hp:1<=p/\p<=40) (hl:1<=len/\len<=60) :
  oM "Room" (jj) [.inst "Plan" pl] ⟨l,H⟩= .ok (.inst "Room" H.length) ⟨l,H++jq H.length pl p len⟩:=by
 refine bz (a9 ["self", "plan"] [.inst "Room" H.length,.inst "Plan" pl]) λl0 e0=> ?_
 have a1:l0 "self" = some (.inst "Room" H.length):=e0▸rfl
 have a2:l0 "plan" = some (.inst "Plan" pl):=e0▸rfl
 refine bz (O.list ((List.replicate (p*len).toNat (0:Int)).map V.int)) λL eL=> ?_
 haveI eT:jq H.length pl p len=[.flds (roomF pl (H.length+1) (H.length+3)),.dict [],.list [.int 0],L]:=by rw [<- eL];rfl
 rw [eT]
 refine bz ([("plan",V.inst "Plan" pl),("racks",V.ref (H.length+1))]) λf2 ef2=> ?_
 haveI b1:0<=p*len:=Int.mul_nonneg (by exact bY 0x98019811 hp.1) (by exact bY 0x98019811 hl.1)
 haveI b2:p*len<=40*60:=Int.mul_le_mul hp.2 hl.2 (by exact bY 0x98019811 hl.1) ∅
 have hpl':∀T:Hp,(H++T)[pl]? = some (.flds (iN p len m)):=λT=>aA ⟨_,rfl⟩ hpl
 haveI m1:∀q,ik (.int p) (.int len) q= .ok (.int (p*len)) q:=λq=>wR p len q (IO (by exact bY 0x98019811 hp.1) (by exact bY 0xf4240a09000028a0811 hp.2))
 haveI m2:ik (.ref (H.length+2)) (.int (p*len)) ⟨l0,H++[.flds f2,.dict [],.list [.int 0]]⟩= .ok (.ref (H.length+3)) ⟨l0,H++[.flds f2,.dict [],.list [.int 0],L]⟩:=by
  rw [xR (a:=(0:Int)) (f:=V.int) (by rw [aar (aaQ _ _),aaC];rfl) ⟨b1,by exact bY 0xf4240a0800003ca28d0811 b2⟩,eL,aac,aae];rfl
 haveI n0:Gl ⟨l0,H++[.flds [("plan",V.inst "Plan" pl)]]⟩= .ok (.ref (H.length+1)) ⟨l0,H++[.flds [("plan",V.inst "Plan" pl)],.dict []]⟩:=by
  unfold Gl;dsimp only;rw [aac,aae];rfl
 haveI n1:eU [.int 0] ⟨l0,H++[.flds f2,.dict []]⟩= .ok (.ref (H.length+2)) ⟨l0,H++[.flds f2,.dict [],.list [.int 0]]⟩:=by
  rw [mX,if_pos (aba rfl),aac,aae];rfl
 rw [Bd,show jj [.inst "Room" H.length,.inst "Plan" pl] (H++[.flds []])= .ok .none (H++[.flds (roomF pl (H.length+1) (H.length+3)),.dict [],.list [.int 0],L]) from ?_]
 refine nJ (m:=rP) (q:=⟨l0,H++[.flds (roomF pl (H.length+1) (H.length+3)),.dict [],.list [.int 0],L]⟩) rfl ?_
 rw [e0]
 refine ak (q':=⟨l0,H++[.flds [("plan",.inst "Plan" pl)]]⟩) ?_ (ak (q':=⟨l0,H++[.flds f2,.dict []]⟩) ?_ ?_)
 ·exists a1,a2,nE (fs:=[]) ∅
 ·rw [<- ef2];exists n0,a1,nE (fs:=[("plan",.inst "Plan" pl)]) (aba rfl)
 ·haveI st:=nE (l:=l0) (H:=H) (c := "Room") (f := "cells") (v:= .ref (H.length+3)) (fs:=f2) (os:=[.dict [],.list [.int 0],L]) (by rw [<- ef2];exact aba rfl)
  rw [show vD "cells" (.ref (H.length+3)) f2=roomF pl (H.length+1) (H.length+3) by rw [<- ef2];rfl] at st
  exists n1,a2,fg (hpl' _) (EZ _ _ _),fg (hpl' _) (wP _ _ _),m1,m2,a1,st
noncomputable def Kd (n pl m:Nat) (p len:Int) (xs:List Int):Rm:=⟨pl,n+1,n+3,m,p,len,xs,[],List.replicate (p*len).toNat 0⟩
theorem Ii {n pl m:Nat} {p len:Int} {xs:List Int} (hp:1<=p/\p<=40) (hl:1<=len/\len<=60) (hs:jO len xs) (hne:xs≠[]) (hm:m≠n+3):(Kd n pl m p len xs).Ok:=by
 haveI b1:0<=p*len:=Int.mul_nonneg (by exact bY 0x98019811 hp.1) (by exact bY 0x98019811 hl.1)
 refine ⟨hp,hl,hs,hne,.nil,.nil,λs h=>(nomatch h),λs h=>(nomatch h),λs h=>(nomatch h),?_,λh=>(nomatch h),λh=>(nomatch h),hm⟩
 show (((List.replicate (p*len).toNat (0:Int)).length:Nat):Int)=p*len
 rw [List.length_replicate];exact id (aaU (ge 0xf800fa11 (aah b1)) ((aaY _)))
theorem Dd {H:Hp} {l:bp} {j:Nat} {p len:Int} {xs:List Int} (hp:1<=p/\p<=40) (hl:1<=len/\len<=60) (hs:jO len xs) (hne:xs≠[]) (h8:xs.length<=8) (hj:H[j]? = some (.list (xs.map V.int))) :
  oM "Plan" (jh) [.int p,.int len,.ref j] ⟨l,H⟩= .ok (.inst "Plan" H.length) ⟨l,H++[.flds (iN p len (H.length+1)),.list (xs.map V.int)]⟩:=by
 haveI:=Ix (H++[.flds []]) H.length j p len xs hp hl hs hne h8 (aN _ _) (aA ⟨_,rfl⟩ hj)
 rw [Bd,this]
 simp
theorem HW {H T:Hp} {n j:Nat} (e:H.length=n) (h:n+T.length=j):(H++T).length=j:=by rw [aac,e,h]
theorem jc (p len:Int) (F:Vw):bj p len F=(bf p).flatMap (cU len F):=by
 unfold bj cn
 induction bf p with
 | nil=>rfl
 | cons g l ih =>
  rw [List.filter_cons,aaW,<- ih]
  cases h:F g with
  | some v=>rw [if_pos (by rfl)];rfl
  | none =>
   rw [if_neg ∅]
   haveI:cU len F g=[]:=by unfold cU;rw [h]
   rw [this];rfl
theorem kz {f f':Int->List (Int×Int)}:∀ {l:List Int},(∀x∈l,f x=f' x)->l.flatMap f=l.flatMap f'
 | [],_=>rfl
 | x::l,h=>by rw [aaW,aaW,h x (.head _),kz λy hy=>h y (.tail _ hy)]
theorem tS {f f':Int->List (Int×Int)} {g:Int} (h0:f' g=[]) (h1:∀x,x≠g->f' x=f x):∀ {l:List Int},l.Nodup->g∈l->(l.flatMap f).Perm (f g++l.flatMap f')
 | [],_,h=>by cases h
 | x::l,hd,h=>by
  obtain ⟨d1,d2⟩:=abd.mp hd
  rw [aaW,aaW]
  by_cases e:x=g
  ·subst e
   haveI:l.flatMap f'=l.flatMap f:=kz λy hy=>h1 y λe=>d1 (e▸hy)
   rw [h0,this];exact .refl _
  ·haveI hg:g∈l:=(aai.mp h).resolve_left λe'=>e e'.symm
   rw [h1 x e]
   haveI:=(tS h0 h1 d2 hg).append_left (f x)
   refine this.trans ?_
   rw [<- aae,<- aae]
   exact List.perm_append_comm.append_right _
theorem nW {p len:Int} {F:Vw} {g:Int} (hg:0<=g/\g<p):(bj p len F).Perm (cU len F g++bj p len (cS F g none)):=by
 rw [jc,jc]
 refine tS ?_ (λx hx=> ?_) (mM (eq p)) (bV.mpr hg)
 ·unfold cU;rw [bQ]
 ·unfold cU;rw [du _ _ hx]
theorem vq (len:Int) (F:Vw) (g z:Int) (bs:List Bool):cU len (cS F g (some (z,bs))) g=(cc 0 bs).map λk=>(g*len+k*z,z):=by unfold cU;rw [bQ]
theorem CB {p len:Int} {F:Vw} {g:Int} (hg:0<=g/\g<p) (v:Option (Int×List Bool)):(bj p len (cS F g v)).Perm (cU len (cS F g v) g++bj p len (cS F g none)):=by
 haveI:=nW (len:=len) (F:=cS F g v) hg
 rw [nX] at this;exact this
theorem fv:∀(bs:List Bool) (a:Int),bs.count true=0->cc a bs=[]
 | [],_,_=>rfl
 | false::bs,a,h=>fv bs (a+1) (by simpa using h)
 | true::bs,a,h=>by simp at h
theorem xe:∀(bs:List Bool) (a:Int) (k:Nat),bs[k]? = some false->(cc a (bs.set k true)).Perm ((a+k)::cc a bs)
 | [],_,_,h=>by simp at h
 | b::bs,a,0,h=>by
  cases Option.some.inj h
  rw [List.set_cons_zero,Int.natCast_zero,Int.add_zero];exact .refl _
 | b::bs,a,k+1,h=>by
  have:=xe bs (a+1) k h
  rw [show a+1+(k:Int)=a+((k+1:Nat):Int) by exact aaU (ge 0x190cf0c0f190cc80) (ge 0xf190cc190cf0c80)] at this
  rw [List.set_cons_succ]
  cases b with
  | true=>exact (this.cons a).trans (.swap _ _ _)
  | false=>exact this
theorem yn {bs:List Bool} {k:Nat} {b:Bool} (h:bs[k]? = some b) (c:Bool):(bs.set k c).set k b=bs:=by
 obtain ⟨hk,e⟩:=aaa.mp h
 rw [List.set_set,<- e,List.set_getElem_self]
theorem xI {bs:List Bool} {k:Nat} {b:Bool} (h:bs[k]? = some b) (c:Bool):(bs.set k c)[k]? = some c:=aaA (aaa.mp h).1
theorem vr {p len:Int} {F:Vw} {g z:Int} {bs:List Bool} {k:Nat} (hg:0<=g/\g<p) (hF:cU len F g=(cc 0 bs).map λk=>(g*len+k*z,z)) (hk:bs[k]? = some false) :
  (bj p len (cS F g (some (z,bs.set k true)))).Perm ((g*len+k*z,z)::bj p len F):=by
 refine (CB hg _).trans ?_
 haveI h1:=(xe bs 0 k hk).map λk=>(g*len+k*z,z)
 rw [Int.zero_add] at h1
 rw [vq]
 refine (h1.append_right _).trans ?_
 rw [aaq,aa4,<- hF]
 exact ((nW hg).symm).cons _
theorem ww {bs:List Bool} {k:Nat} (h:bn bs=some k):bs[k]? = some false:=(gw h).2
structure Pk (p:Int) (F:Vw) (z g:Int) (bs:List Bool):Prop where
 hg:0<=g/\g<p
 old:F g=some (z,bs)\/bs.count true=0/\(F g=none\/ ∃v,F g=some v/\v.2.count true=0)
theorem Gq {p len:Int} {F:Vw} {z:Int} (hin:∀g v,F g=some v->0<=g/\g<p) {gF:Int×Vw} (h:Bc p len F z=some gF) {bs:List Bool} (hb:gF.2 gF.1=some (z,bs)) {k:Nat} (hk:bn bs=some k) :
  Pk p F z gF.1 bs/\cS gF.2 gF.1 (some (z,bs.set k true))=cS F gF.1 (some (z,bs.set k true)):=by
 unfold Bc at h
 cases hbst:FZ F none (bh p F z) with
 | some g =>
  rw [hbst] at h
  cases h
  exact ⟨⟨hin _ _ hb,.inl hb⟩,rfl⟩
 | none =>
  rw [hbst] at h
  obtain ⟨g,hg,rfl⟩:=Option.map_eq_some_iff.mp h
  dsimp only at hb ⊢
  rw [bQ] at hb
  cases hb
  refine ⟨⟨?_,.inr ⟨by rw [List.count_replicate];rfl,?_⟩⟩,nX _ _ _ _⟩
  all_goals
   unfold Ej at hg
   split at hg
   ·rename_i g' r hbr
    cases hg
    have:=DU (F:=F) (p:=p) (g:=g) (by rw [hbr];exact .head _)
    first | exact this.1 | exact .inl this.2
   ·have:=List.mem_of_head? hg
    obtain ⟨h1,v,hv⟩:=Ed this
    first
     | exact h1
     | exact .inr ⟨v,hv,by
       haveI h2:=(aaz.mp this).2
       unfold Eb at h2;rw [hv] at h2;simpa using h2⟩
theorem Pk.thg {p len:Int} {F:Vw} {z g:Int} {bs:List Bool} (h:Pk p F z g bs):cU len F g=(cc 0 bs).map λk=>(g*len+k*z,z):=by
 unfold cU
 rcases h.old with h1 | ⟨h1,h2 | ⟨v,h2,h3⟩⟩
 ·rw [h1]
 ·rw [h2,fv bs 0 h1];rfl
 ·rw [h2];dsimp only;rw [fv v.2 0 h3,fv bs 0 h1];rfl
theorem Fv {p len:Int} {F:Vw} {g z:Int} {bs:List Bool} {k:Nat} (hg:0<=g/\g<p) (hF:F g=some (z,bs)) (hk:bs[k]? = some true) :
  (bj p len F).Perm ((g*len+k*z,z)::bj p len (F5 p F g z (bs.set k false))):=by
 haveI h1:=vr (p:=p) (len:=len) (F:=cS F g (some (z,bs.set k false))) (z:=z) (bs:=bs.set k false) (k:=k) hg (vq _ _ _ _ _) (xI hk false)
 rw [yn hk,nX] at h1
 haveI e:cS F g (some (z,bs))=F:=by
  funext x
  by_cases hx:x=g
  ·rw [hx,bQ,hF]
  ·rw [du _ _ hx]
 rw [e] at h1
 refine h1.trans (.cons _ ?_)
 unfold F5
 split
 ·rename_i h
  refine (CB hg _).trans ?_
  rw [vq,fv _ _ h.1,nX];exact .refl _
 ·exact .refl _
theorem Fx (p len:Int) (F:Vw):bj p len (dE F (o7 p F))=bj p len F:=by
 rw [jc,jc]
 refine kz λg hg=> ?_
 unfold cU dE
 split
 ·rename_i v hv
  split at hv
  ·cases hv
  ·rw [hv]
 ·rename_i hv
  split at hv
  ·rename_i hm
   haveI h2:=(aaz.mp hm).2
   unfold Eb at h2
   cases hF:F g with
   | none=>rfl
   | some v =>
    rw [hF] at h2
    dsimp only
    rw [fv v.2 0 (by simpa using h2)];rfl
  ·rw [hv]
def AG (len z:Int) (F:Vw):Prop:= ∀g v,F g=some v->v.1=z->(v.2.length:Int)=len.fdiv z
noncomputable def zM (e:Int×Int):PyData:= .tuple [.int e.1,.int e.2]
theorem Gv (H:Hp) (n:Nat) (e:Int×Int):toD H (n+2) (aw e)=some (zM e):=rfl
theorem xY (a b:Int×Int):PyData.eqv (zM a) (zM b)=decide (a=b):=by
 unfold zM
 rw [BM,mC,mC,nI,nI,show PyData.eqvAll [] []=true from rfl,Bool.and_true,<- Bool.decide_and]
 exact decide_eq_decide.mpr Prod.ext_iff.symm
theorem Bk (e:Int×Int):Sh 1 (zM e):=zZ λd hd=>by
 rcases aai.mp hd with rfl | hd
 ·exact uR _ _
 ·rw [aaj.mp hd];exact uR _ _
theorem Fj (os:List (Int×Int)):Sh 2 (.list (os.map zM)):=yp λd hd=>by
 obtain ⟨e,_,rfl⟩:=aaf.mp hd
 exact Bk e
theorem Cg (H:Hp) (n:Nat) (os:List (Int×Int)):dt (toD H (n+2)) (os.map aw)=some (os.map zM):=uq _ _ _ (Gv H n) os
theorem DS (e:Int×Int):∀os:List (Int×Int),((os.map zM).any λy=>PyData.eqv y (zM e))=decide (e∈os)
 | []=>rfl
 | x::os=>by
  rw [aaq,List.any_cons,DS e os,xY,<- Bool.decide_or]
  exact decide_eq_decide.mpr ⟨λh=>aai.mpr (h.imp Eq.symm id),λh=>(aai.mp h).imp Eq.symm id⟩
theorem zq {H:Hp} {l:bp} {o:Nat} {os:List (Int×Int)} (h:H[o]? = some (.list (os.map aw))) (a b:Int):tY (.tup [.int a,.int b]) (.ref o) ⟨l,H⟩= .ok (decide ((a,b)∈os)) ⟨l,H⟩:=by
 haveI e:IN H (.tup [.int a,.int b]) (os.map aw)=some (decide ((a,b)∈os)):=by
  unfold IN
  rw [show toD H 8 (.tup [.int a,.int b])=some (zM (a,b)) from rfl,abe,Cg H 6,abe,(Bk _).shaped ∅,(Fj os).shaped ∅,Bool.and_self,if_pos rfl,DS]
 unfold tY;dsimp only;rw [h];dsimp only;rw [e]
theorem HQ {os:List (Int×Int)} {e:Int×Int} (h:e∈os):∃i,(os.map zM).findIdx (λy=>PyData.eqv y (zM e))=i/\os[i]? = some e:=by
 have hf:(os.map zM).findIdx (λy=>PyData.eqv y (zM e))<(os.map zM).length:=List.findIdx_lt_length_of_exists ⟨zM e,aaf.mpr ⟨e,h,rfl⟩,by rw [xY];exact decide_eq_true rfl⟩
 haveI hg:=List.findIdx_getElem (w:=hf)
 rw [aad] at hf
 refine ⟨_,rfl,?_⟩
 rw [List.getElem_map,xY] at hg
 rw [aal hf,of_decide_eq_true hg]
theorem zr {H:Hp} {l:bp} {o:Nat} {os:List (Int×Int)} (h:H[o]? = some (.list (os.map aw))) {a b:Int} (hm:(a,b)∈os) (hl:os.length<=1000000):∃i:Nat,xL (.ref o) (.tup [.int a,.int b]) ⟨l,H⟩= .ok (.int i) ⟨l,H⟩/\os[i]? = some (a,b):=by
 obtain ⟨i,e,hi⟩:=HQ hm
 refine ⟨i,?_,hi⟩
 haveI hlt:=(aaa.mp hi).1
 show (match H[o]? with | some (.list xs)=>(match toD H 8 (.tup [.int a,.int b]),dt (toD H 8) xs with | some d,some ds=>_ | _,_=>_) | _=>_)=_
 rw [h];dsimp only
 rw [show toD H 8 (.tup [.int a,.int b])=some (zM (a,b)) from rfl,Cg H 6];dsimp only
 rw [e,if_pos ⟨⟨(Bk _).shaped ∅,(Fj os).shaped ∅⟩,by rw [aad];exact hl,by rw [aad];exact hlt⟩]
theorem Fg {H:Hp} {l:bp} {o:Nat} {vs:List V} (v:V) (h:H[o]? = some (.list vs)) {i:Nat} (hi:i<vs.length) (hl:vs.length<=1000000):cY (.ref o) (.int i) v ⟨l,H⟩= .ok () ⟨l,H.set o (.list (vs.set i v))⟩:=by
 haveI h1:(i:Int)<1000000:=by exact cu 0xf4240a0f90f4240a10110112 hi hl
 unfold cY;dsimp only;rw [h];exact if_pos ⟨Int.natCast_nonneg _,h1,Int.ofNat_lt.mpr hi⟩
theorem Ie {H:Hp} {l:bp} {o:Nat} {vs:List V} {v:V} (h:H[o]? = some (.list vs)) {i:Int} (h0:0<=i) (hi:i<vs.length) (hl:vs.length<=1000000) (hv:vs[i.toNat]? = some v):E4 (.ref o) (.int i) ⟨l,H⟩= .ok v ⟨l,H.set o (.list (vs.eraseIdx i.toNat))⟩:=by
 unfold E4;dsimp only;rw [h];dsimp only;rw [if_pos (show 0<=i/\i<(vs.length:Int)/\vs.length<=1000000 from ⟨h0,hi,hl⟩),hv]
theorem pv {α:Type} {os:List α} {i:Nat} {e:α} (h:os[i]? = some e):os.Perm (e::os.eraseIdx i):=by
 induction os generalizing i with
 | nil=>cases h
 | cons x os ih =>
  cases i with
  | zero=>cases h;exact .refl _
  | succ i=>exact ((ih h).cons x).trans (.swap _ _ _)
theorem EV {α:Type} {os:List α} {i:Nat} (b:α) (h:i<os.length):(os.set i b).Perm (b::os.eraseIdx i):=by
 haveI:=pv (os:=os.set i b) (i:=i) (e:=b) (aaA h)
 rwa [List.eraseIdx_set_eq] at this
noncomputable def IQ (len z:Int) (it:Int×Int):Int×Int:=(it.1*len+it.2*z,z)
theorem yA {p len z:Int} {F:Vw}:∀ {l:List Int},l.Nodup->(∀g∈l,(0<=g/\g<p)/\ ∃bs,F g=some (z,bs))->(bj p len F).Perm ((l.flatMap (uc F)).map (IQ len z)++bj p len (dE F l))
 | [],_,_=>by rw [qi];exact .refl _
 | g::l,hd,h=>by
  obtain ⟨d1,d2⟩:=abd.mp hd
  obtain ⟨hg,bs,hb⟩:=h g (.head _)
  haveI ih:=yA (len:=len) d2 λx hx=>h x (.tail _ hx)
  haveI sp:=nW (len:=len) (F:=dE F l) hg
  rw [Do] at sp
  haveI e:cU len (dE F l) g=(uc F g).map (IQ len z):=by
   unfold cU uc dE
   rw [if_neg d1,hb];dsimp only
   rw [aaV];rfl
  rw [e] at sp
  refine (ih.trans (sp.append_left _)).trans ?_
  rw [aaW,List.map_append,<- aae]
  exact (List.perm_append_comm).append_right _
structure Mv (p z:Int) (stay ns:List Int) (Fr:Vw):Prop where
 on:∀x∈stay,∃bs,Fr x=some (z,bs)
 rg:∀x∈stay,0<=x/\x<p
 ns:∀x∈stay,x∉ns
theorem B3 {p len z:Int} {stay ns:List Int} {Fr:Vw} (h:Mv p z stay ns Fr) {it:Int×Int} (hm:(stay.find? (zK Fr)).isSome=true) :
  ∃to,A3 ((jX len z stay Fr it).1=(it.1*len+it.2*z,to)) (Mv p z stay ns (jX len z stay Fr it).2) ((bj p len (dE (jX len z stay Fr it).2 ns)).Perm ((to,z)::bj p len (dE Fr ns))):=by
 obtain ⟨x,hx⟩:=aaT.mp hm
 have hxs:=aa3 hx
 obtain ⟨v,j,hv,hj⟩:=qf (List.find?_some hx)
 obtain ⟨bs,hb⟩:=h.on x hxs
 obtain rfl:v=(z,bs):=Option.some.inj (hv.symm.trans hb)
 rw [tx it hx hv hj]
 refine ⟨_,rfl,⟨λy hy=> ?_,h.rg,h.ns⟩,?_⟩
 ·by_cases e:y=x
  ·exact ⟨_,by rw [e];exact bQ _ _ _⟩
  ·exact (h.on y hy).imp λ_ hy=>(du _ _ e).trans hy
 ·haveI e:dE (cS Fr x (some (z,bs.set j true))) ns=cS (dE Fr ns) x (some (z,bs.set j true)):=by
   funext y
   unfold dE cS
   by_cases e:y=x
   ·rw [if_pos e,e,if_neg (h.ns x hxs),if_pos rfl]
   ·rw [if_neg e,if_neg e]
  dsimp only
  rw [e]
  refine vr (h.rg x hxs) ?_ (ww hj)
  unfold cU dE;rw [if_neg (h.ns x hxs),hb]
theorem wM {len z:Int} {stay:List Int}:∀ {its:List (Int×Int)} {Fr:Vw},(cX len z stay Fr its).1.length=its.length
 | [],_=>rfl
 | it::its,Fr=>by rw [cX,aas,wM,aas]
structure Kg (o mv:Nat) (z:Int) (l:bp):Prop where
 o:l "_law_out" = some (.ref o)
 z:l "_law_size" = some (.int z)
theorem BP {p len z:Int} {stay ns:List Int} {o mv:Nat} (hom:mv≠o) {cs:List V}:∀ {its:List (Int×Int)} {Fr:Vw} {os:List (Int×Int)} {H:Hp} {l:bp},A9 len z stay Fr its->Mv p z stay ns Fr->os.Perm (its.map (IQ len z)++bj p len (dE Fr ns))->os.length<=100000->H[o]? = some (.list (os.map aw))->H[mv]? = some (.list cs)->Kg o mv z l ->
  ∃(l':bp) (H':Hp) (os':List (Int×Int)),A4 (df (λH=>av (.ref mv) H=some cs) (aL "_law_move") (fY) ((cX len z stay Fr its).1.map aw) ⟨l,H⟩= .ok .next ⟨l',H'⟩) (cA [o] H H') (H'[o]? = some (.list (os'.map aw))) (os'.Perm (bj p len (dE (cX len z stay Fr its).2 ns)))
 | [],Fr,os,H,l,_,_,hp,_,ho,_,_=>⟨l,H,os,rfl,cA.refl _ _,ho,hp⟩
 | it::its,Fr,os,H,l,hok,hM,hp,hlen,ho,hc,hl=>by
  refine nH λG kG=> ?_
  obtain ⟨to,e1,hM',hp'⟩:=B3 (len:=len) (it:=it) hM hok.1
  have hin:(it.1*len+it.2*z,z)∈os:=hp.mem_iff.mpr (.head _)
  obtain ⟨i,ix,hi⟩:=zr (l:=upd l "_law_move" (.tup [.int (it.1*len+it.2*z),.int to])) ho hin (by exact b9 0xf4240a000186a0a0011 hlen)
  have hil:=(aaa.mp hi).1
  refine bz (upd l "_law_move" (.tup [.int (it.1*len+it.2*z),.int to])) λl1 el=> ?_
  rw [el] at ix
  haveI iv:=zq (l:=l1) ho (it.1*len+it.2*z) z
  rw [decide_eq_true hin] at iv
  haveI st:=Fg (l:=l1) (.tup [.int to,.int z]) ho (i:=i) (by rw [aad];exact hil) (by rw [aad];exact id (b9 0xf4240a000186a0a0011 hlen))
  haveI es:(os.map aw).set i (.tup [.int to,.int z])=(os.set i (to,z)).map aw:=by rw [List.map_set];rfl
  rw [es] at st
  refine bz (H.set o (.list ((os.set i (to,z)).map aw))) λH1 eH=> ?_
  rw [eH] at st
  have C1:cA [o] H H1:=eH▸cA.set (.head _)
  haveI ho1:H1[o]? = some (.list ((os.set i (to,z)).map aw)):=by rw [<- eH];exact aaA (bJ ho)
  have hc1:=C1.get hc (λh=>hom (aaj.mp h))
  have d0:∀q,aJ (.tup [.int (it.1*len+it.2*z),.int to]) (.int 0) q= .ok (.int (it.1*len+it.2*z)) q:=λq=>rfl
  haveI d1:∀q,aJ (.tup [.int (it.1*len+it.2*z),.int to]) (.int 1) q= .ok (.int to) q:=λq=>rfl
  have a1:=ah el ∅ hl.o
  have a2:=ah el ∅ hl.z
  haveI tb:fY ⟨l1,H⟩= .ok .next ⟨l1,H1⟩:=by
   refine ak (q':=⟨l1,H⟩) ?_ ?_
   ·exists ay el,d0,a2,a1,iv
   ·exists ay el,d1,a2,a1,nL ho,d0,ix,st
  haveI hp1:(os.set i (to,z)).Perm (its.map (IQ len z)++bj p len (dE (jX len z stay Fr it).2 ns)):=by
   haveI h1:=(pv hi).symm.trans hp
   rw [aaq,aa4] at h1
   refine (EV _ hil).trans ?_
   refine (h1.cons_inv.cons _).trans ?_
   refine List.perm_middle.symm.trans ?_
   exact hp'.symm.append_left _
  obtain ⟨l2,H2,os2,t2,C2,ho2,hp2⟩:=BP hom hok.2 hM' hp1 (by rw [List.length_set];exact hlen) ho1 hc1 ⟨a1,a2⟩
  haveI em:(cX len z stay Fr (it::its)).1.map aw= .tup [.int (it.1*len+it.2*z),.int to]::(cX len z stay (jX len z stay Fr it).2 its).1.map aw:=by
   rw [cX,aaq,e1];rfl
  refine kG ⟨l2,H2,os2,?_,C1.trans C2,ho2,hp2⟩
  rw [em]
  exact (bP (bq (g_set el) tb) (dK hc1)).trans t2
theorem HT {H:Hp} {l:bp} {i:Nat} {vs:List V} (h:H[i]? = some (.list vs)):pM "list" (.ref i) ⟨l,H⟩= .ok (.bool true) ⟨l,H⟩:=by rw [He,show yB H (.ref i)=some "list" by unfold yB;dsimp only;rw [h]];rfl
theorem uC {H:Hp} {n:Nat} {cs:List V} (hn:H[n]? = some (.list cs)):∀(es:List (Int×Int)) (l:bp),∃l',df (λH=>av (.ref n) H=some cs) (aL "_law_pair") (oz) (es.map aw) ⟨l,H⟩= .ok .next ⟨l',H⟩
 | [],l=>⟨l,rfl⟩
 | e::es,l=>by
  refine bz (upd l "_law_pair" (.tup [.int e.1,.int e.2])) λl1 el=> ?_
  obtain ⟨l2,t⟩:=uC hn es l1
  haveI d0:∀q,aJ (.tup [.int e.1,.int e.2]) (.int 0) q= .ok (.int e.1) q:=λq=>rfl
  haveI d1:∀q,aJ (.tup [.int e.1,.int e.2]) (.int 1) q= .ok (.int e.2) q:=λq=>rfl
  haveI it:∀q,pM "tuple" (.tup [.int e.1,.int e.2]) q= .ok (.bool true) q:=λq=>rfl
  haveI ln:∀q,dY [.tup [.int e.1,.int e.2]] q= .ok (.int 2) q:=λq=>rfl
  haveI e2:∀q,nZ (.int 2) (.int 2) q= .ok true q:=λq=>lH rfl
  refine ⟨l2,(bP (q':=⟨l1,H⟩) (bq (g_set el) (ak (q':=⟨l1,H⟩) ?_ ?_)) (dK hn)).trans t⟩
  ·exists ay el,it,ln,e2
  ·exists ay el,d0,d1,lA
theorem yF {H:Hp} {n:Nat} {es:List (Int×Int)} (hn:H[n]? = some (.list (es.map aw))):gu [.ref n] H= .ok (.bool true) H:=by
 refine bz (a9 ["_law_found"] [.ref n]) λl0 e0=> ?_
 have a0:l0 "_law_found" = some (.ref n):=e0▸rfl
 obtain ⟨l',t⟩:=uC hn es l0
 refine bg (m:=rV) (q:=⟨l',H⟩) rfl ?_
 rw [e0]
 refine ak (q':=⟨l0,H⟩) ?_ (ak (q':=⟨l',H⟩) (bq (bq (g_get a0) (iI hn)) t) rfl)
 exists a0,HT hn
structure OG (col:Nat->Nat) (H:Hp) (p len:Int) (xs:List Int) (ri o za:Nat) (r:Rm) (os:List (Int×Int)):Prop where
 r:RG 1 col H p len xs ri r
 co:col o=2
 o:H[o]? = some (.list (os.map aw))
 cz:col za=0
 z:H[za]? = some (.list (xs.map V.int))
inductive Bx (col:Nat->Nat) (H:Hp) (p len:Int) (xs:List Int) (ri o za:Nat) (H':Hp):Prop
 | mk (col':Nat->Nat) (r:Rm) (os:List (Int×Int)) (g:OG col' H' p len xs ri o za r os) (pm:os.Perm (bj p len (look r.ss))) (e:yH 1 col H col' H'):Bx col H p len xs ri o za H'
section
variable {col:Nat->Nat} {H:Hp} {p len:Int} {xs:List Int} {ri o za:Nat} {r:Rm} {os:List (Int×Int)}
theorem Bx.trans {col':Nat->Nat} {H1 H2:Hp} (e:yH 1 col H col' H1) (h:Bx col' H1 p len xs ri o za H2):Bx col H p len xs ri o za H2:=by
 cases h with
 | mk col2 r os g pm e2=>exact ⟨col2,r,os,g,pm,e.trans e2⟩
theorem OG.room (h:OG col H p len xs ri o za r os) {H':Hp} {r':Rm} (a:aI H' ri r') (ok:r'.Ok) (sm:r.Sm r') (ch:cA (r.own ri) H H') (ow:∀i∈r'.own ri,i∈r.own ri\/H.length<=i) :
  OG (iQ col H.length 1 (r'.own ri)) H' p len xs ri o za r' os/\yH 1 col H (iQ col H.length 1 (r'.own ri)) H':=by
 obtain ⟨x,e⟩:=h.r.step a ok sm ch ow
 have w1:=e.get h.o (by rw [h.co];decide)
 have w2:=e.get h.z (by rw [h.cz];decide)
 exact ⟨⟨x,w1.2.trans h.co,w1.1,w2.2.trans h.cz,w2.1⟩,e.evo ∅⟩
theorem OG.roomF (h:OG col H p len xs ri o za r os) {H':Hp} {r':Rm} (a:aI H' ri r') (ok:r'.Ok) (sm:r.Sm r') (ch:cA (r.own ri) H H') (ow:∀i∈r'.own ri,i∈r.own ri\/H.length<=i) :
  OG (iQ col H.length 1 (r'.own ri)) H' p len xs ri o za r' os/\FQ 1 col (r.own ri) H (iQ col H.length 1 (r'.own ri)) H':=⟨(h.room a ok sm ch ow).1,(h.r.step a ok sm ch ow).2⟩
theorem OG.out (h:OG col H p len xs ri o za r os) {H':Hp} {os':List (Int×Int)} (ch:cA [o] H H') (ho:H'[o]? = some (.list (os'.map aw))) :
  OG (iQ col H.length 0 []) H' p len xs ri o za r os'/\yH 1 col H (iQ col H.length 0 []) H':=by
 have e:FQ 2 col [o] H (iQ col H.length 0 []) H':=⟨ch,λi hi _=>by rw [aaj.mp hi];exact h.co,λi hi=>iR hi⟩
 have w2:=e.get h.z (by rw [h.cz];decide)
 exact ⟨⟨h.r.frame e ∅ ∅,(iR (bJ h.o)).trans h.co,ho,w2.2.trans h.cz,w2.1⟩,e.evo ∅⟩
theorem OG.pre (h:OG col H p len xs ri o za r os) {H':Hp} (e:H<+:H'):OG (iQ col H.length 0 []) H' p len xs ri o za r os/\yH 1 col H (iQ col H.length 0 []) H':=h.out (cA.pre e) (aA e h.o)
theorem OG.inr (h:OG col H p len xs ri o za r os):∀g v,look r.ss g=some v->0<=g/\g<p:=λg v hv=>by
 obtain ⟨s,hs,_,_⟩:=bB hv
 haveI:=h.r.ok.pg s (aS hs).1
 rw [(aS hs).2,h.r.rp] at this;exact this
theorem OG.szok (h:OG col H p len xs ri o za r os) (z:Int):AG len z (look r.ss):=λg v hv hz=>by
 obtain ⟨s,hs,y1,y2⟩:=bB hv
 haveI:=h.r.ok.slots s (aS hs).1
 rw [<- y2,this,h.r.rl,y1,hz]
theorem OG.sz (h:OG col H p len xs ri o za r os):jO len xs:=h.r.rl▸h.r.rx▸h.r.ok.sz
theorem OG.few (h:OG col H p len xs ri o za r os) (pm:os.Perm (bj p len (look r.ss))):os.length<=40000:=by
 rw [pm.length_eq]
 haveI:∀ks:List Int,(ks.flatMap (cU len (look r.ss))).length<=1000*ks.length:=λks=>by
  induction ks with
  | nil=>exact aaK _
  | cons g ks ih =>
   haveI:(cU len (look r.ss) g).length<=1000:=by
    unfold cU
    split
    ·rename_i v hv
     obtain ⟨s,hs,_,y2⟩:=bB hv
     rw [aad,gj,<- y2]
     exact aao List.count_le_length (h.r.ok.bslen (aS hs).1)
    ·exact Nat.zero_le _
   rw [aaW,aac,aas,Nat.mul_succ,Nat.add_comm];exact Nat.add_le_add ih this
 exact aao (this _) (Nat.mul_le_mul_left _ (jV p (h.r.rp▸h.r.ok.p.2) _))
theorem OG.wish (h:OG col H p len xs ri o za r os) {w:Int} (hw:1<=w):match xs.find? (λx=>decide (x>=w)) with
  | none=>dp [.inst "Room" ri,.int w] H= .exc "TooLarge" H
  | some z=>match Bc p len (look r.ss) z with
   | none=> ∃H',dp [.inst "Room" ri,.int w] H= .exc "NoRoom" H'/\H<+:H'
   | some _=> ∃g bs k r' H' col',Pk p (look r.ss) z g bs/\(bs.length:Int)=len.fdiv z/\bn bs=some k/\dp [.inst "Room" ri,.int w] H= .ok (.int (g*len+(k:Nat)*z)) H'/\look r'.ss=cS (look r.ss) g (some (z,bs.set k true))/\OG col' H' p len xs ri o za r' os/\FQ 1 col (r.own ri) H col' H'/\(bj p len (look r'.ss)).Perm ((g*len+(k:Nat)*z,z)::bj p len (look r.ss)):=by
 have v:=IG h.r.rm h.r.ok hw
 rw [h.r.rp,h.r.rl,h.r.rx] at v
 cases hf:xs.find? (λx=>decide (x>=w)) with
 | none=>rw [hf] at v;exact v
 | some z =>
  rw [hf] at v
  dsimp only at v ⊢
  cases hp:Bc p len (look r.ss) z with
  | none=>rw [hp] at v;exact v
  | some gF =>
   rw [hp] at v
   obtain ⟨bs,j,r',H1,f1,f2,v1,v2,v3,v4,v5,v6,v7⟩:=v
   obtain ⟨g1,e1⟩:=h.roomF v2 v3 v4 v6 v7
   obtain ⟨P,eF⟩:=Gq h.inr hp f1 f2
   rw [eF] at v5
   refine ⟨gF.1,bs,j,r',H1,_,P,?_,f2,v1,v5,g1,e1,?_⟩
   ·haveI:=g1.szok z gF.1 (z,bs.set j true) (by rw [v5,bQ]) rfl
    rw [List.length_set] at this;exact this
   ·rw [v5];exact vr P.hg P.thg (ww f2)
theorem CC (h:OG col H p len xs ri o za r os) (pm:os.Perm (bj p len (look r.ss))) {w:Int} (hw:1<=w):∃H',jl [.inst "Room" ri,.ref za,.ref o,.int w] H= .ok (.bool true) H'/\Bx col H p len xs ri o za H':=by
 refine nH λG kG=> ?_
 refine bz (a9 ["_law_room", "_law_sizes", "_law_out", "_law_wish"] [.inst "Room" ri,.ref za,.ref o,.int w]) λl0 e0=> ?_
 haveI a1:l0 "_law_room" = some (.inst "Room" ri):=e0▸rfl
 haveI a2:l0 "_law_sizes" = some (.ref za):=e0▸rfl
 haveI a3:l0 "_law_out" = some (.ref o):=e0▸rfl
 have a4:l0 "_law_wish" = some (.int w):=e0▸rfl
 refine bz ((xs.find? λx=>decide (x>=w)).getD 0) λy ey=> ?_
 have sb:=Dc h.z w
 rw [ey] at sb
 refine bz (upd l0 "_law_size" (.int y)) λl1 el1=> ?_
 have t1:oV ⟨l0,H⟩= .ok .next ⟨l1,H⟩:=by exists a2,a4,sb,el1
 have b1:=ah el1 ∅ a1
 have b4:=ah el1 ∅ a4
 have b5:=ay el1
 have v:=h.wish hw
 cases hf:xs.find? (λx=>decide (x>=w)) with
 | none =>
  rw [hf] at v ey
  subst ey
  refine kG ⟨H,bg (m:=jm) (q:=⟨l1,H⟩) rfl ?_,col,r,os,h,pm,yH.refl _ _ _⟩
  rw [e0]
  refine ak t1 (fS (El (bx (bq (g_get b1) (bq (bA h.r.rm ∅ _) (bq (bq (g_get b4) (bq rfl rfl)) (tu v))))) ?_))
  rw [if_pos rfl]
  exact bq (bq (g_get b5) (bq rfl (bq (g_ceq rfl) rfl))) rfl
 | some z =>
  rw [hf] at v ey
  haveI ey:z=y:=ey
  subst ey
  haveI hz1:=h.sz.low z (aa3 hf)
  have k1:decide (z>0)=true:=decide_eq_true (by exact bY 0x99019811 hz1)
  dsimp only at v
  cases hp:Bc p len (look r.ss) z with
  | none =>
   rw [hp] at v
   obtain ⟨H1,v1,p1⟩:=v
   obtain ⟨g1,E1⟩:=h.pre p1
   refine kG ⟨H1,bg (m:=jm) (q:=⟨l1,H1⟩) rfl ?_,_,r,os,g1,pm,E1⟩
   rw [e0]
   refine ak t1 (fS (El (bx (bq (g_get b1) (bq (bA h.r.rm ∅ _) (bq (bq (g_get b4) (bq rfl rfl)) (tu v1))))) ?_))
   rw [if_neg ∅,if_pos rfl]
   exact bq (bq (g_get b5) (bq rfl (bq (g_cgt k1) rfl))) rfl
  | some gF =>
   rw [hp] at v
   obtain ⟨g,bs,j,r',H1,col1,_,_,_,v1,_,g1,E1,pm1⟩:=v
   haveI E1:yH 1 col H col1 H1:=E1.evo ∅
   haveI pm1:=(pm.cons _).trans pm1.symm
   refine bz (g*len+(j:Nat)*z) λpl epl=> ?_
   rw [epl] at v1 pm1
   refine bz (upd l1 "_law_place" (.int pl)) λl2 el2=> ?_
   haveI t2:oX ⟨l1,H⟩= .ok .next ⟨l2,H1⟩:=I9 (bq (bq (g_get b1) (bq (bA h.r.rm ∅ _) (bq (bq (g_get b4) (bq rfl rfl)) (g_call v1)))) (bq (g_set el2) rfl))
   haveI hfw:=h.few pm
   haveI ap:=mW (.tup [.int pl,.int z]) l2 H1 g1.o (by rw [aad];exact id (b9 0xf4240a01009c40a0011 hfw))
   haveI es:os.map aw++[.tup [.int pl,.int z]]=(os++[(pl,z)]).map aw:=by rw [List.map_append];rfl
   rw [es] at ap
   refine bz (H1.set o (.list ((os++[(pl,z)]).map aw))) λH2 eH2=> ?_
   rw [eH2] at ap
   obtain ⟨g2,E2⟩:=g1.out (H':=H2) (eH2▸cA.set (.head _)) (by rw [<- eH2];exact aaA (bJ g1.o))
   have c5:=ah el2 ∅ b5
   have c6:=ay el2
   refine kG ⟨H2,bg (m:=jm) (q:=⟨l2,H2⟩) rfl ?_,_,r',_,g2,(List.perm_append_comm (l₁:=os) (l₂:=[(pl,z)])).trans pm1,E1.trans E2⟩
   rw [e0]
   refine ak t1 (ak t2 (ak (q':=⟨l2,H2⟩) ?_ ?_))
   ·exists ah el2 ∅ (ah el1 ∅ a3),nL g1.o,c6,c5,ap
   ·exists c6,lA,c5,k1
theorem Bn (h:OG col H p len xs ri o za r os) (pm:os.Perm (bj p len (look r.ss))) {z:Int} (hz:z∈xs):∃H',iD [.inst "Room" ri,.int z,.ref o] H= .ok (.bool true) H'/\Bx col H p len xs ri o za H':=by
 refine nH λG kG=> ?_
 refine bz (a9 ["_law_room", "_law_size", "_law_out"] [.inst "Room" ri,.int z,.ref o]) λl0 e0=> ?_
 haveI a1:l0 "_law_room" = some (.inst "Room" ri):=e0▸rfl
 have a2:l0 "_law_size" = some (.int z):=e0▸rfl
 haveI a3:l0 "_law_out" = some (.ref o):=e0▸rfl
 haveI v:=vw h.r.rm h.r.ok (z:=z) (by rw [h.r.rx];exact hz)
 rw [h.r.rl,h.r.rp] at v
 obtain ⟨n,r',H1,w1,w2,w3,w4,w5,w6,w7,w8,w9,w10⟩:=v
 obtain ⟨g1,E1⟩:=h.room w4 w5 w6 w8 λi hi=> .inl (w9 i hi)
 refine bz (upd l0 "_law_moves" (.ref n)) λl1 el1=> ?_
 have b1:=ay el1
 refine bz (look r.ss) λF eF=> ?_
 have hin:=h.inr
 haveI hso:=h.szok z
 rw [eF] at w3 w7 hin hso pm
 obtain ⟨u1,u2,u3,u4⟩:=c7 (a:=len) (b:=z) (by haveI:=h.r.ok.len;rw [h.r.rl] at this;exact id (bY 0x98019811 this.1)) (h.sz.low z hz)
 haveI per1:1<=len.fdiv z:=tQ u1 u4 (h.sz.top z hz)
 haveI hok:=xK (p:=p) hso per1
 haveI hns:((bh p F z).filter λg => !decide (g∈aD p len F z)).Nodup:=jd.filter _
 haveI hnm:∀g∈(bh p F z).filter (λg => !decide (g∈aD p len F z)),(0<=g/\g<p)/\ ∃bs,F g=some (z,bs):=λg hg=>by
  obtain ⟨bs,hb⟩:=j8 (aaz.mp hg).1
  exact ⟨hin g _ hb,bs,hb⟩
 haveI out:=yA (len:=len) hns hnm
 rw [<- xP] at out
 haveI hMv:Mv p z (aD p len F z) ((bh p F z).filter λg => !decide (g∈aD p len F z)) F:=⟨λx hx=>j8 (iq hx),λx hx=>by
  obtain ⟨bs,hb⟩:=j8 (iq hx)
  exact hin x _ hb,λx hx hn=>by
  have:=(aaz.mp hn).2
  rw [decide_eq_true hx] at this;cases this⟩
 haveI hno:n≠o:=λe=>absurd (bJ h.o) (Nat.not_lt.mpr (e▸w2))
 obtain ⟨l2,H2,os2,t3,C2,ho2,pm2⟩:=BP (l:=l1) hno hok hMv (pm.trans out) (by haveI:=h.few (eF▸pm);exact id (b9 0x186a0a00009c40a0011 this)) g1.o w3 ⟨ah el1 ∅ a3,ah el1 ∅ a2⟩
 obtain ⟨g2,E2⟩:=g1.out C2 ho2
 refine kG ⟨H2,bg (m:=mP) (q:=⟨l2,H2⟩) rfl ?_,_,r',os2,g2,by rw [w7];exact pm2,E1.trans E2⟩
 rw [e0]
 refine ak (q':=⟨l1,H1⟩) ?_ (ak (q':=⟨l1,H1⟩) ?_ (ak (q':=⟨l2,H2⟩) (bq (bq (g_get b1) (iI w3)) t3) rfl))
 ·exists a1,bA h.r.rm (f := "gather") ∅,a2,w1,el1
 ·exists b1,yF w3
end
theorem wL {α β:Type} (f:α->β):∀(l:List α) (i:Nat),(l.map f).eraseIdx i=(l.eraseIdx i).map f
 | [],_=>rfl
 | _::_,0=>rfl
 | x::l,i+1=>by rw [aaq,List.eraseIdx_cons_succ,List.eraseIdx_cons_succ,aaq,wL f l i]
structure TL (ri o za:Nat) (len cell more:Int) (l:bp):Prop where
 r:l "_law_room" = some (.inst "Room" ri)
 n:l "_law_length" = some (.int len)
 s:l "_law_sizes" = some (.ref za)
 o:l "_law_out" = some (.ref o)
 c:l "_law_cell" = some (.int cell)
 m:l "_law_more" = some (.int more)
theorem TL.turn {ri o za:Nat} {len cell more:Int} {l l':bp} (h:TL ri o za len cell more l) {v:V} (e:upd l "_law_turn" v=l'):TL ri o za len cell more l' :=
 ⟨ah e ∅ h.r,ah e ∅ h.n,ah e ∅ h.s,ah e ∅ h.o,ah e ∅ h.c,ah e ∅ h.m⟩
section
variable {col:Nat->Nat} {H:Hp} {p len cell more:Int} {xs:List Int} {ri o za:Nat} {r:Rm} {os:List (Int×Int)} {l:bp}
theorem Ia (a:Int) (q:S):bS (.int a) (.int 8) q= .ok (.int (a.fmod 8)) q:=dX ∅ rfl
theorem wU:∀(ys:List V) {col:Nat->Nat} {H:Hp} {r:Rm} {os:List (Int×Int)} {l:bp},OG col H p len xs ri o za r os->os.Perm (bj p len (look r.ss))->TL ri o za len cell more l ->
  ∃l' H',df (λ_=>True) (aL "_law_turn") (kj) ys ⟨l,H⟩= .ok .next ⟨l',H'⟩/\Bx col H p len xs ri o za H'
 | [],col,H,r,os,l,h,pm,_=>⟨l,H,rfl,col,r,os,h,pm,yH.refl _ _ _⟩
 | y::ys,col,H,r,os,l,h,pm,hl=>by
  refine nH λG kG=> ?_
  have hlen:=h.r.ok.len.1
  rw [h.r.rl] at hlen
  haveI hw:=bT more len (by exact bY 0x99019811 hlen)
  obtain ⟨H1,t1,E1⟩:=CC h pm (w:=1+more.fmod len) (by exact bY 0x19c198009811 hw.1)
  refine bz (upd l "_law_turn" y) λl1 e1=> ?_
  have T1:=hl.turn e1
  haveI md:∀q,bS (.int more) (.int len) q= .ok (.int (more.fmod len)) q:=λq=>dX (by exact λx9=>bY 0x9096090a1019812 hlen x9:len≠0) rfl
  haveI tb:kj ⟨l1,H⟩= .ok .next ⟨l1,H1⟩:=by exists T1.r,T1.s,T1.o,T1.m,T1.n,md,t1
  cases E1 with
  | mk col1 r1 os1 g1 pm1 e1' =>
   obtain ⟨l2,H2,t2,E2⟩:=wU ys g1 pm1 T1
   exact kG ⟨l2,H2,(bP (bq (g_set e1) tb) trivial).trans t2,E2.trans e1'⟩
theorem Iq (h:OG col H p len xs ri o za r os) (pm:os.Perm (bj p len (look r.ss))) (hl:TL ri o za len cell more l) (hc:cell.fmod 8<7):∃q',iu ⟨l,H⟩= .ok (.ret (.bool true)) q'/\Bx col H p len xs ri o za q'.H:=by
 refine nH λG kG=> ?_
 have k1:decide (cell.fmod 8<7)=true:=decide_eq_true hc
 have q0:=qR (l:=l) h.o (mV os)
 refine bz (H++[O.list []]) λH1 eH1=> ?_
 rw [eH1] at q0
 haveI p1:H<+:H1:=⟨_,eH1⟩
 obtain ⟨g1,E1⟩:=h.pre p1
 have hfw:=h.few pm
 have tA:∀ {M R:Cm Fl} {q':S},M ⟨l,H1⟩= .ok .next q'->R q'= .ok (.ret (.bool true)) q'->Bx col H p len xs ri o za q'.H->os≠[]->((((af "_law_cell").b λv58=>(Cm.p (V.int 8)).b λv59=>bS v58 v59).b λv60=>(Cm.p (V.int 7)).b λv61=>(dA .Lt v60 v61).b λx62=>Cm.p x62).b λb84=>if b84 then (aB (((af "_law_out").b λv64=>((Cm.p ([]:List V)).b λvs63=>eU vs63).b λv65=>(dA .NotEq v64 v65).b λx66=>Cm.p x66).b λb82=>if b82 then M else (Cm.p Fl.next)) R) else (Cm.p Fl.next)) ⟨l,H⟩= .ok (.ret (.bool true)) q':=λ{M R q'} hM hR hE hne=>by
  haveI hb:(os.map aw).isEmpty=false:=by
   cases os with
   | nil=>exact absurd rfl hne
   | cons=>rfl
  rw [hb] at q0
  refine bq (a:=true) (q':=⟨l,H⟩) ?_ (it_t rfl (ak (bq (a:=true) (q':=⟨l,H1⟩) ?_ (it_t rfl hM)) hR))
  ·exists hl.c,Ia,k1
  ·exists hl.o,eH1,q0
 cases os with
 | nil =>
  refine kG ⟨⟨l,H1⟩,bq (a:=true) (q':=⟨l,H⟩) ?_ (it_t rfl (ak (q':=⟨l,H1⟩) (bq (a:=false) (q':=⟨l,H1⟩) ?_ (it_f rfl rfl)) rfl)),_,r,[],g1,pm,E1⟩
  ·exists hl.c,Ia,k1
  ·exists hl.o,eH1,q0
 | cons t0 th =>
  refine bz (t0::th) λts ets=> ?_
  have hne:ts≠[]:=by rw [<- ets];exact List.cons_ne_nil _ _
  rw [ets] at h pm g1 hfw tA
  haveI hp:0<ts.length:=List.length_pos_iff.mpr hne
  haveI hlv:dY [.ref o] ⟨l,H1⟩= .ok (.int ts.length) ⟨l,H1⟩:=by
   haveI:=cE (l:=l) g1.o (by rw [aad];exact id (b9 0xf4240a01009c40a0011 hfw))
   rw [aad] at this;exact this
  have hi:=bT more ts.length (by exact b9 0xf099009111 hp)
  refine bz (more.fmod ts.length) λi ei=> ?_
  rw [ei] at hi
  obtain ⟨e,he⟩:∃e,ts[i.toNat]? = some e:=⟨_,aal (by exact jF 0x1101fa10f0912 hi.2 (aah hi.1))⟩
  obtain ⟨g,z,bs,j,hg,hj,rfl⟩:=gp (pm.mem_iff.mp (aaE he))
  haveI pp:=Ie (l:=l) (v:= .tup [.int (g*len+j*z),.int z]) g1.o hi.1 (by rw [aad];exact hi.2) (by rw [aad];exact id (b9 0xf4240a00009c40a0011 hfw)) (by rw [abf,he];rfl)
  haveI em:(ts.map aw).eraseIdx i.toNat=(ts.eraseIdx i.toNat).map aw:=wL _ _ _
  rw [em] at pp
  refine bz (H1.set o (.list ((ts.eraseIdx i.toNat).map aw))) λH2 eH2=> ?_
  rw [eH2] at pp
  obtain ⟨g2,E2⟩:=g1.out (H':=H2) (eH2▸cA.set (.head _)) (by rw [<- eH2];exact aaA (bJ g1.o))
  obtain ⟨s,hs,y1,y2⟩:=xG hg
  haveI hj':=hj
  rw [<- y2] at hj
  haveI w:=Al g2.r.rm g2.r.ok hs y1 hj
  rw [h.r.rl,h.r.rp,y2] at w
  obtain ⟨r',H3,w1,w2,w3,w4,w5,w6,w7⟩:=w
  obtain ⟨g3,E3⟩:=g2.room w2 w3 w4 w6 λi hi=> .inl (w7 i hi)
  haveI pm3:(ts.eraseIdx i.toNat).Perm (bj p len (look r'.ss)):=by
   rw [w5]
   exact (((pv he).symm.trans pm).trans (Fv (h.inr g _ hg) hg hj')).cons_inv
  haveI d0:∀q,aJ (.tup [.int (g*len+j*z),.int z]) (.int 0) q= .ok (.int (g*len+j*z)) q:=λq=>rfl
  have hE:Bx col H p len xs ri o za H3:=⟨_,r',_,g3,pm3,(E1.trans E2).trans E3⟩
  refine kG ⟨⟨l,H3⟩,tA (q':=⟨l,H3⟩) ?_ rfl hE hne,hE⟩
  exists hl.r,bA g1.r.rm (f := "give_back") ∅,hl.o,nL g1.o,hl.m,hlv,dX (J6 he) ei,pp,d0,w1
theorem ID (h:OG col H p len xs ri o za r os) (pm:os.Perm (bj p len (look r.ss))) (cell:Int):∃H',pd [.inst "Room" ri,.int len,.ref za,.ref o,.int cell] H= .ok (.bool true) H'/\Bx col H p len xs ri o za H':=by
 refine nH λG kG=> ?_
 refine bz (a9 ["_law_room", "_law_length", "_law_sizes", "_law_out", "_law_cell"] [.inst "Room" ri,.int len,.ref za,.ref o,.int cell]) λl0 e0=> ?_
 obtain ⟨more,em⟩:∃m,cell.fdiv 8=m:=⟨_,rfl⟩
 refine bz (upd l0 "_law_more" (.int more)) λl e1=> ?_
 have hl:TL ri o za len cell more l:=⟨ah e1 ∅ (e0▸rfl),ah e1 ∅ (e0▸rfl),ah e1 ∅ (e0▸rfl),ah e1 ∅ (e0▸rfl),ah e1 ∅ (e0▸rfl),ay e1⟩
 haveI c0:l0 "_law_cell" = some (.int cell):=e0▸rfl
 haveI t1:qB ⟨l0,H⟩= .ok .next ⟨l,H⟩:=by
  haveI v8:∀q,cT (.int cell) (.int 8) q= .ok (.int more) q:=λq=>fN ∅ em
  exists c0,v8,e1
 have iG:∀ {q':S},aB (lu) (aB (lv) (aB (iu) (aB (lx) (qC)))) ⟨l,H⟩= .ok (.ret (.bool true)) q'->Bx col H p len xs ri o za q'.H->G:=λ{q'} hm hE =>
  kG ⟨q'.H,bg (m:=uo) (q:=q') rfl (by rw [e0];exact ak t1 hm),hE⟩
 have hL:=h.r.ok.len
 rw [h.r.rl] at hL
 haveI hw:=bT more len (by exact bY 0x99019811 hL.1)
 haveI md:∀q,bS (.int more) (.int len) q= .ok (.int (more.fmod len)) q:=λq=>dX (by exact λx9=>bY 0x9096090a1019812 hL.1 x9:len≠0) rfl
 by_cases h2:cell.fmod 8<3
 ·haveI k2:decide (cell.fmod 8<3)=true:=decide_eq_true h2
  obtain ⟨H1,t,E1⟩:=CC h pm (w:=1+more.fmod len) (by exact bY 0x19c198009811 hw.1)
  refine iG (q':=⟨l,H1⟩) (fS ?_) E1
  exists hl.c,Ia,k2,hl.r,hl.s,hl.o,hl.m,hl.n,md,t
 haveI k2:decide (cell.fmod 8<3)=false:=decide_eq_false h2
 have t2:lu ⟨l,H⟩= .ok .next ⟨l,H⟩:=by exists hl.c,Ia,k2
 by_cases h3:cell.fmod 8<5
 ·haveI k3:decide (cell.fmod 8<5)=true:=decide_eq_true h3
  have rg:=bT (more.fdiv 2) 6 ∅
  obtain ⟨l',H1,t,E1⟩:=wU (bN 0 (1+(more.fdiv 2).fmod 6).toNat) h pm hl
  haveI m1:∀q,cT (.int more) (.int 2) q= .ok (.int (more.fdiv 2)) q:=λq=>fN ∅ rfl
  haveI m2:∀q,bS (.int (more.fdiv 2)) (.int 6) q= .ok (.int ((more.fdiv 2).fmod 6)) q:=λq=>dX ∅ rfl
  haveI rv:=j3 (1+(more.fdiv 2).fmod 6) ⟨l,H⟩ ⟨by exact bY 0x19c0f4240a1b9009811 rg.1,by exact bY 0xf4240a019c9690911 rg.2⟩
  refine iG (q':=⟨l',H1⟩) (ak t2 (fS (bq (a:=true) (q':=⟨l,H⟩) ?_ (it_t rfl (ak (q':=⟨l',H1⟩) (bq (a:=⟨bN 0 (1+(more.fdiv 2).fmod 6).toNat,λ_=>True⟩) (q':=⟨l,H⟩) ?_ t) rfl))))) E1
  ·exists hl.c,Ia,k3
  ·exists hl.m,m1,m2,rv
 haveI k3:decide (cell.fmod 8<5)=false:=decide_eq_false h3
 have t3:lv ⟨l,H⟩= .ok .next ⟨l,H⟩:=by exists hl.c,Ia,k3
 by_cases h4:cell.fmod 8<7
 ·obtain ⟨q',t,E⟩:=Iq h pm hl h4
  exact iG (ak t2 (ak t3 (fS t))) E
 haveI k4:decide (cell.fmod 8<7)=false:=decide_eq_false h4
 have t4:iu ⟨l,H⟩= .ok .next ⟨l,H⟩:=by exists hl.c,Ia,k4
 have m3:∀q,bS (.int more) (.int 3) q= .ok (.int (more.fmod 3)) q:=λq=>dX ∅ rfl
 by_cases h5:more.fmod 3=0
 ·haveI k5:decide (more.fmod 3=0)=true:=decide_eq_true h5
  haveI v:=IF h.r.rm h.r.ok
  rw [h.r.rp] at v
  obtain ⟨r',H1,w1,w2,w3,w4,w5,w6,w7⟩:=v
  obtain ⟨g1,E1⟩:=h.room w2 w3 w4 w6 λi hi=> .inl (w7 i hi)
  refine iG (q':=⟨l,H1⟩) (ak t2 (ak t3 (ak t4 (fS (bq (a:=true) (q':=⟨l,H⟩) ?_ (it_t rfl (ak (q':=⟨l,H1⟩) ?_ rfl))))))) ⟨_,r',os,g1,by rw [w5,Fx];exact pm,E1⟩
  ·exists hl.m,m3,k5
  ·exists hl.r,bA h.r.rm (f := "trim") ∅,w1
 ·haveI k5:decide (more.fmod 3=0)=false:=decide_eq_false h5
  haveI t5:lx ⟨l,H⟩= .ok .next ⟨l,H⟩:=by exists hl.m,m3,k5
  have hsz:=h.sz
  have hxl:=ui (a:=0) (b:=len) hsz.rise (λx hx=>⟨hsz.low x hx,hsz.top x hx⟩) (by exact bY 0x98019811 hL.1)
  haveI hx0:0<xs.length:=List.length_pos_iff.mpr (h.r.rx▸h.r.ok.ne)
  haveI hlv:dY [.ref za] ⟨l,H⟩= .ok (.int xs.length) ⟨l,H⟩:=by
   haveI:=cE (l:=l) h.z (by rw [aad];exact id (ge 0xf4240a01090e0f8100003ca0812 hL.2 hxl))
   rw [aad] at this;exact this
  haveI v3:∀q,cT (.int more) (.int 3) q= .ok (.int (more.fdiv 3)) q:=λq=>fN ∅ rfl
  have hi:=bT (more.fdiv 3) xs.length (by exact b9 0xf099009111 hx0)
  refine bz ((more.fdiv 3).fmod xs.length) λi ei=> ?_
  rw [ei] at hi
  obtain ⟨z,he⟩:∃z,xs[i.toNat]? = some z:=⟨_,aal (by exact jF 0x1101fa10f0912 hi.2 (aah hi.1))⟩
  haveI itm:aJ (.ref za) (.int i) ⟨l,H⟩= .ok (.int z) ⟨l,H⟩:=xN h.z hi.1 (by exact Dg 0xf4240a190f191090e0f8100003ca0813 hL.2 hxl hi.2) (by rw [abf,he];rfl)
  obtain ⟨H1,t,E⟩:=Bn h pm (aaE he)
  refine iG (q':=⟨l,H1⟩) (ak t2 (ak t3 (ak t4 (ak t5 ?_)))) E
  exists hl.r,hl.s,hl.m,v3,hlv,dX (J6 he) ei,itm,hl.o,t
structure HL (ri o za:Nat) (len:Int) (l:bp):Prop where
 r:l "_law_room" = some (.inst "Room" ri)
 n:l "_law_length" = some (.int len)
 s:l "_law_sizes" = some (.ref za)
 o:l "_law_out" = some (.ref o)
theorem wH {x:Nat} {cs:List V}:∀(ys:List Int) {col:Nat->Nat} {H:Hp} {r:Rm} {os:List (Int×Int)} {l:bp},OG col H p len xs ri o za r os->os.Perm (bj p len (look r.ss))->H[x]? = some (.list cs)->col x=0->HL ri o za len l ->
  ∃l' H',A3 (df (λH=>av (.ref x) H=some cs) (aL "_law_cell") (gJ) (ys.map V.int) ⟨l,H⟩= .ok .next ⟨l',H'⟩) (l' "_law_out" = some (.ref o)) (Bx col H p len xs ri o za H')
 | [],col,H,r,os,l,h,pm,_,_,hl=>⟨l,H,rfl,hl.o,col,r,os,h,pm,yH.refl _ _ _⟩
 | y::ys,col,H,r,os,l,h,pm,hx,cx,hl=>by
  refine nH λG kG=> ?_
  obtain ⟨H1,t1,E1⟩:=ID h pm y
  refine bz (upd l "_law_cell" (.int y)) λl1 e1=> ?_
  have T1:HL ri o za len l1:=⟨ah e1 ∅ hl.r,ah e1 ∅ hl.n,ah e1 ∅ hl.s,ah e1 ∅ hl.o⟩
  haveI tb:gJ ⟨l1,H⟩= .ok .next ⟨l1,H1⟩:=by exists T1.r,T1.n,T1.s,T1.o,ay e1,t1
  cases E1 with
  | mk col1 r1 os1 g1 pm1 e1' =>
   have w:=e1'.get (aaK 1) hx cx
   obtain ⟨l2,H2,t2,b2,E2⟩:=wH ys g1 pm1 w.1 w.2 T1
   exact kG ⟨l2,H2,(bP (bq (g_set e1) tb) (dK w.1)).trans t2,b2,E2.trans e1'⟩
theorem Dv {x:Nat} {ys:List Int} (h:RG 1 col H p len xs ri r) (hz:H[za]? = some (.list (xs.map V.int))) (cz:col za=0) (hx:H[x]? = some (.list (ys.map V.int))) (cx:col x=0) (h0:look r.ss=λ_=>none) :
  ∃o H',jA [.ref x,.inst "Room" ri,.int len,.ref za] H= .ok (.ref o) H'/\Bx col H p len xs ri o za H':=by
 refine nH λG kG=> ?_
 refine bz (a9 ["_law_cells", "_law_room", "_law_length", "_law_sizes"] [.ref x,.inst "Room" ri,.int len,.ref za]) λl0 e0=> ?_
 refine bz (H++[O.list []]) λH1 eH=> ?_
 haveI p1:H<+:H1:=⟨_,eH⟩
 refine bz (upd l0 "_law_out" (.ref H.length)) λl1 e1=> ?_
 haveI hL:HL ri H.length za len l1:=⟨ah e1 ∅ (e0▸rfl),ah e1 ∅ (e0▸rfl),ah e1 ∅ (e0▸rfl),ay e1⟩
 haveI a0:l1 "_law_cells" = some (.ref x):=ah e1 ∅ (e0▸rfl)
 have fr:FQ 2 col [] H (iQ col H.length 2 [H.length]) H1:=⟨cA.pre p1,λi hi=>(nomatch hi),λi hi=>iR hi⟩
 have wz:=fr.get hz (by rw [cz];decide)
 have wx:=fr.get hx (by rw [cx];decide)
 haveI g:OG (iQ col H.length 2 [H.length]) H1 p len xs ri H.length za r []:=⟨h.frame fr ∅ ∅,zS (Nat.lt_irrefl _) (.head _),by rw [<- eH];exact aN _ _,wz.2.trans cz,wz.1⟩
 haveI pm:([]:List (Int×Int)).Perm (bj p len (look r.ss)):=by
  rw [h0]
  haveI:bj p len (λ_=>none)=[]:=by
   rw [jc]
   haveI:cU len (λ_=>none)=λ_=>[]:=rfl
   rw [this]
   induction bf p with
   | nil=>rfl
   | cons _ _ ih=>rw [aaW,ih];rfl
  rw [this]
 obtain ⟨l2,H2,t2,b2,E2⟩:=wH ys g pm wx.1 (wx.2.trans cx) hL
 refine kG ⟨H.length,H2,bg (m:=oJ) (q:=⟨l2,H2⟩) rfl ?_,E2.trans (fr.evo ∅)⟩
 rw [e0]
 refine ak (q':=⟨l1,H1⟩) ?_ (ak (q':=⟨l2,H2⟩) (bq (bq (g_get a0) (iI wx.1)) t2) (bq (g_get b2) rfl))
 exists eH,e1
end
theorem yU {caps:List String} {x:String} {tst:Cm Bool} {elt:Cm V} {l:bp} {mi:Cm It} {H:Hp} {n:Nat} {ps:List (Int×Int)} (ψ : V->Option V)
  (hmi:mi ⟨l,H⟩= .ok ⟨ps.map aw,λH=>av (.ref n) H=some (ps.map aw)⟩ ⟨l,H⟩) (hn:H[n]? = some (.list (ps.map aw))) (hlen:ps.length<=1000000)
  (hstep:∀p∈ps,bM (aL x) tst elt (gn caps l) (aw p) H= .ok (ψ (aw p)) H) :
  cC caps mi (aL x) tst elt ⟨l,H⟩= .ok (.ref H.length) ⟨l,H++[.list ((ps.map aw).filterMap ψ)]⟩:=by
 haveI hc:=fn (g:=λH=>av (.ref n) H=some (ps.map aw)) (bd:=aL x) (tst:=tst) (elt:=elt) (lc:=gn caps l) (H:=H) (dK hn) ψ (ps.map aw) λv hv=>by
  obtain ⟨p,hp,rfl⟩:=aaf.mp hv
  exact hstep p hp
 exact fo hmi (by rw [aad];exact hlen) hc
noncomputable def onPg (len g:Int) (os:List (Int×Int)):List Int:=(os.filter λe=>decide (e.1.fdiv len=g)).map (·.2)
section
variable {col:Nat->Nat} {H:Hp} {p len:Int} {xs:List Int} {ri o za:Nat} {r:Rm} {os:List (Int×Int)} {l:bp}
theorem OG.page (h:OG col H p len xs ri o za r os) {g z:Int} {bs:List Bool} {j:Nat} (hg:look r.ss g=some (z,bs)) (hj:j<bs.length):(g*len+j*z).fdiv len=g/\(g*len+j*z).fmod len=j*z/\1<=z:=by
 obtain ⟨s,hs,y1,y2⟩:=xG hg
 have hm:=(aS hs).1
 have hz:=h.r.ok.szpos hm
 haveI hl:=h.r.ok.slots s hm
 haveI hL:=h.r.ok.len
 rw [h.r.rl] at hz hl hL
 rw [y1] at hz hl
 rw [y2] at hl
 obtain ⟨u1,u2,u3,u4⟩:=c7 (a:=len) (b:=z) (by exact bY 0x98019811 hL.1) hz.1
 haveI b2:0<=(j:Int)*z:=Int.mul_nonneg (by exact b9 0xf0980) (by exact bY 0x98019811 hz.1)
 haveI b3:((j:Int)+1)*z<=len.fdiv z*z:=Int.mul_le_mul_of_nonneg_right (by exact jF 0x190fc801fa110112 hj hl) (by exact bY 0x98019811 hz.1)
 rw [Int.add_mul] at b3
 have:=Jy (q:=g) (b:=len) (r:=j*z) b2 (by exact AV 0x2391001d3c812181019813 hz.1 u3 b3)
 exact ⟨this.1,this.2,hz.1⟩
theorem OG.onPg (h:OG col H p len xs ri o za r os) (pm:os.Perm (bj p len (look r.ss))) {g:Int} (hg:0<=g/\g<p):onPg len g os=match look r.ss g with | some v=>List.replicate (v.2.count true) v.1 | none=>[]:=by
 have h1:(Mine.Lake.onPg len g os).Perm (Mine.Lake.onPg len g (cU len (look r.ss) g++bj p len (cS (look r.ss) g none))):=((pm.trans (nW hg)).filter _).map _
 haveI h2:(bj p len (cS (look r.ss) g none)).filter (λe=>decide (e.1.fdiv len=g))=[]:=List.filter_eq_nil_iff.mpr λe he=>by
  obtain ⟨g',z,bs,j,hF,hj,rfl⟩:=gp he
  have hne:g'≠g:=λe=>by rw [e,bQ] at hF;cases hF
  rw [du _ _ hne] at hF
  rw [(h.page hF (aaa.mp hj).1).1,decide_eq_false hne];exact aaF
 have h3:Mine.Lake.onPg len g (cU len (look r.ss) g++bj p len (cS (look r.ss) g none))=match look r.ss g with | some v=>List.replicate (v.2.count true) v.1 | none=>[]:=by
  unfold Mine.Lake.onPg
  rw [List.filter_append,h2,List.append_nil]
  unfold cU
  cases hF:look r.ss g with
  | none=>rfl
  | some v =>
   dsimp only
   rw [List.filter_eq_self.mpr λe he=>by
    obtain ⟨k,hk,rfl⟩:=aaf.mp he
    obtain ⟨j,rfl,hj⟩:=eE v.2 0 k hk
    rw [aa1]
    exact decide_eq_true (h.page (z:=v.1) (bs:=v.2) hF (aaa.mp hj).1).1,aaV]
   haveI:((λx:Int×Int=>x.2)∘λk=>(g*len+k*v.1,v.1))=λ_=>v.1:=rfl
   rw [this,List.map_const',gj]
 rw [h3] at h1
 cases hF:look r.ss g with
 | none=>rw [hF] at h1;exact h1.eq_nil
 | some v=>rw [hF] at h1;exact List.perm_replicate.mp h1
end
theorem BG {F:List Nat} {H H':Hp} (h:cA F H H') (hF:∀i∈F,H.length<=i):H<+:H':=by
 rw [List.prefix_iff_getElem?]
 intro i hi
 rw [h.same i hi λhm=>Nat.not_lt.mpr (hF i hm) hi,aal hi]
section
variable {col:Nat->Nat} {H:Hp} {p len:Int} {xs:List Int} {ri o za:Nat} {r:Rm} {os:List (Int×Int)} {l:bp}
theorem slot {len z:Int} {j n:Nat} (hl:1<=len) (hz:1<=z) (hn:(n:Int)=len.fdiv z) (hj:j<n):0<=(j:Int)*z/\(j:Int)*z+z<=len:=by
 obtain ⟨u1,u2,u3,u4⟩:=c7 (a:=len) (b:=z) (by exact bY 0x98019811 hl) hz
 haveI b3:((j:Int)+1)*z<=len.fdiv z*z:=Int.mul_le_mul_of_nonneg_right (by exact jF 0x191fc8011100fa12 hn hj) (by exact bY 0x98019811 hz)
 rw [Int.add_mul,Int.one_mul] at b3
 exact ⟨Int.mul_nonneg (by exact b9 0xf0980) (by exact bY 0x98019811 hz),aa8 b3 u3⟩
theorem lN {a b len:Int} (h:a<b) (hl:1<=len):a*len+len<=b*len:=by
 haveI:(a+1)*len<=b*len:=Int.mul_le_mul_of_nonneg_right h (by exact bY 0x98019811 hl)
 rw [Int.add_mul,Int.one_mul] at this;exact this
end
theorem xd:∀(bs:List Bool) (a:Int),(∀k∈cc a bs,a<=k)/\(cc a bs).Pairwise (· < ·)
 | [],a=>⟨λk hk=>(nomatch hk),.nil⟩
 | b::bs,a=>by
  obtain ⟨h1,h2⟩:=xd bs (a+1)
  cases b with
  | true =>
   rw [GK]
   exact ⟨λk hk=>(aai.mp hk).elim (λe=>Int.le_of_eq e.symm) λhk=>aa8 (Int.le_add_of_nonneg_right ∅) (h1 k hk),aaI.mpr ⟨λk hk=>h1 k hk,h2⟩⟩
  | false =>
   rw [GJ]
   exact ⟨λk hk=>aa8 (Int.le_add_of_nonneg_right ∅) (h1 k hk),h2⟩
section
variable {col:Nat->Nat} {H:Hp} {p len:Int} {xs:List Int} {ri o za:Nat} {r:Rm} {os:List (Int×Int)} {l:bp}
theorem OG.on (h:OG col H p len xs ri o za r os) {g:Int} {e:Int×Int} (he:e∈cU len (look r.ss) g):g*len<=e.1/\e.1<g*len+len:=by
 haveI hL:=h.r.ok.len
 rw [h.r.rl] at hL
 unfold cU at he
 cases hF:look r.ss g with
 | none=>rw [hF] at he;cases he
 | some v =>
  rw [hF] at he
  obtain ⟨k,hk,rfl⟩:=aaf.mp he
  obtain ⟨j,rfl,hj⟩:=eE v.2 0 k hk
  rw [aa1]
  have hj:=(aaa.mp hj).1
  obtain ⟨_,_,hz⟩:=h.page (z:=v.1) (bs:=v.2) hF hj
  obtain ⟨u1,u2⟩:=slot hL.1 hz (h.szok v.1 g _ hF rfl) hj
  dsimp only;exact id (⟨pD 0x1c18009811 u1,AV 0x23c13c9201c81019812 hz u2⟩)
end
section
variable {col:Nat->Nat} {H:Hp} {p len:Int} {xs:List Int} {ri o za:Nat} {r:Rm} {os:List (Int×Int)} {l:bp}
theorem OG.inj (h:OG col H p len xs ri o za r os) {e e':Int×Int} (he:e∈bj p len (look r.ss)) (he':e'∈bj p len (look r.ss)) {t t':Int} (ht:0<=t/\t<e.2) (ht':0<=t'/\t'<e'.2) (hq:e.1+t=e'.1+t'):e=e':=by
 have hL:=h.r.ok.len
 rw [h.r.rl] at hL
 obtain ⟨g,z,bs,j,hF,hj,rfl⟩:=gp he
 obtain ⟨g',z',bs',j',hF',hj',rfl⟩:=gp he'
 have lj:=(aaa.mp hj).1
 have lj':=(aaa.mp hj').1
 obtain ⟨u1,u2⟩:=slot hL.1 (h.page hF lj).2.2 (h.szok z g _ hF rfl) lj
 obtain ⟨v1,v2⟩:=slot hL.1 (h.page hF' lj').2.2 (h.szok z' g' _ hF' rfl) lj'
 have hz:=(h.page hF lj).2.2
 dsimp only at ht ht' hq
 rcases Int.lt_trichotomy g g' with hlt | rfl | hlt
 ·haveI:=lN hlt hL.1;exact id ((fu [] [_,_,_,_,_,_,_,_] 0x9096573c8160981714c81265cc043ccb12098110916 ht.2 ht'.1 hq u2 v1 this).elim)
 ·rw [hF] at hF'
  cases hF'
  rcases Nat.lt_trichotomy j j' with hjk | rfl | hjk
  ·haveI:=lN (a:=j) (b:=j') (by exact cu 0x1f0f910111 hjk) hz;exact id ((fu [] [_,_,_,_,_,_] 0x9096514c81253cc043ccb12098110914 ht.2 ht'.1 hq this).elim)
  ·rfl
  ·haveI:=lN (a:=j') (b:=j) (by exact cu 0x1f0f910111 hjk) hz;exact id ((fu [] [_,_,_,_,_,_] 0x9096425c81153cc043cca12191009814 ht.1 ht'.2 hq this).elim)
 ·haveI:=lN hlt hL.1;exact id ((fu [] [_,_,_,_,_,_,_,_] 0x9096375c81726c8140981165cc043cca12191009816 ht.1 ht'.2 hq u1 v2 this).elim)
end
theorem wW {a b:List Int} (h:a.Perm b):dn a=dn b:=by
 induction h with
 | nil=>rfl
 | cons x _ ih=>rw [dk,dk,ih]
 | swap x y l=>rw [dk,dk,dk,dk];exact id (aaU (tZ 0x20c1c21c0c80) (tZ 0x20c1c21c0c80))
 | trans _ _ h1 h2=>rw [h1,h2]
theorem Ae:∀a b:List Int,dn (a++b)=dn a+dn b
 | [],b=>by rw [List.nil_append,show dn []=0 from rfl,Int.zero_add]
 | x::a,b=>by rw [aa4,dk,dk,Ae a b];exact id (aaU (tZ 0x210cc21c0c80) (tZ 0x21c0c210cc80))
theorem wX:∀ {l:List Int},(∀x∈l,x=0)->dn l=0
 | [],_=>rfl
 | x::l,h=>by rw [dk,wX λy hy=>h y (.tail _ hy),h x (.head _)];rfl
section
variable {p len z:Int} {F:Vw}
theorem II (hs:AG len z F) (hz:1<=len.fdiv z):dn ((bh p F z).map (ce F))<=(bh p F z).length*len.fdiv z:=by
 haveI:∀l:List Int,(∀g∈l,g∈bh p F z)->dn (l.map (ce F))<=l.length*len.fdiv z:=λl=>by
  induction l with
  | nil=>intro _;rw [List.length_nil,Int.natCast_zero,Int.zero_mul];exact Int.le_refl _
  | cons g l ih =>
   intro hl
   haveI h1:=ih λx hx=>hl x (.tail _ hx)
   obtain ⟨bs,hb⟩:=j8 (hl g (.head _))
   haveI h2:=hs g _ hb rfl
   haveI h3:ce F g<=len.fdiv z:=by
    unfold ce bZ;rw [hb,<- h2];exact Int.ofNat_le.mpr List.count_le_length
   rw [aaq,dk,aas,Int.natCast_add,Int.add_mul,show ((1:Nat):Int)=1 from rfl,Int.one_mul,Int.add_comm]
   exact Int.add_le_add h1 h3
 exact this _ λg hg=>hg
theorem B8 (hs:AG len z F) (hz:1<=len.fdiv z):aV p len F z<=(bh p F z).length:=by
 haveI h1:=II (p:=p) hs hz
 haveI h0:=gk (p:=p) (F:=F) hz
 rcases Int.lt_or_le ((bh p F z).length:Int) (aV p len F z) with h | h
 ·haveI hm:0<=dn ((bh p F z).map (ce F)):=by
   haveI:=gC (bZ F) (bh p F z)
   rw [show (bh p F z).map (ce F)=(bh p F z).map λg=>((bZ F g:Nat):Int) from rfl,this];exact Int.natCast_nonneg _
  obtain ⟨u1,u2,u3,u4⟩:=c7 (a:=dn ((bh p F z).map (ce F))+len.fdiv z-1) (b:=len.fdiv z) (by exact pD 0x1901ce09810981019812 hz hm) hz
  haveI e:(dn ((bh p F z).map (ce F))+len.fdiv z-1).fdiv (len.fdiv z)=aV p len F z:=rfl
  rw [e] at u3
  haveI h5:(((bh p F z).length:Int)+1)*len.fdiv z<=aV p len F z*len.fdiv z:=Int.mul_le_mul_of_nonneg_right (by exact ge 0x190fc800f911 h) (by exact bY 0x98019811 hz)
  rw [Int.add_mul,Int.one_mul] at h5
  exact absurd (aa8 h5 u3) (Int.not_le.mpr (aaX (Int.sub_lt_self _ ∅) (Int.add_le_add_right h1 _)))
 ·exact h
theorem Aa (hs:AG len z F) (hz:1<=len.fdiv z):(aD p len F z).length=(aV p len F z).toNat:=by
 haveI h1:=B8 (p:=p) hs hz
 haveI h2:=(di (p:=p) (F:=F) (z:=z)).length_eq
 rw [aad] at h2
 rw [eD.length_eq,aad,abc,h2]
 exact Nat.min_eq_left (Int.toNat_le.mpr h1)
theorem BU:(bR F (aD p len F z) (bh p F z)).length+((aD p len F z).map (bZ F)).sum=((bh p F z).map (bZ F)).sum:=by
 rw [tv]
 haveI:=(List.filter_append_perm (λg=>decide (g∈aD p len F z)) (bh p F z)).map (bZ F)
 rw [<- this.sum_nat,List.map_append,List.sum_append]
 haveI s2:(((bh p F z).filter λg=>decide (g∈aD p len F z)).map (bZ F)).sum=((aD p len F z).map (bZ F)).sum:=by
  refine List.Perm.sum_nat (List.Perm.map _ ?_)
  refine (List.perm_ext_iff_of_nodup (jd.filter _) iV).mpr λg=> ?_
  rw [aaz]
  exact ⟨λh=>of_decide_eq_true h.2,λh=>⟨iq h,decide_eq_true h⟩⟩
 rw [s2,Nat.add_comm]
noncomputable def vA (F:Vw) (z g:Int):Int:=if eW F z g then ce F g else 0
theorem rF:bh p F z=(bf p).filter (eW F z):=by
 unfold bh cn
 rw [List.filter_filter]
 refine List.filter_congr λg _=> ?_
 cases h:eW F z g with
 | false=>rfl
 | true =>
  unfold eW at h
  cases hF:F g with
  | none=>rw [hF] at h;cases h
  | some v=>rfl
theorem BI:((bf p).map (vA F z)).Perm ((bh p F z).map (ce F)++((bf p).filter λg => !eW F z g).map λ_=>0):=by
 rw [rF]
 refine ((List.filter_append_perm (eW F z) (bf p)).map (vA F z)).symm.trans ?_
 rw [List.map_append]
 refine List.Perm.of_eq (congr (congrArg _ (aaZ λg hg=> ?_)) (aaZ λg hg=> ?_))
 ·unfold vA;rw [if_pos (aaz.mp hg).2]
 ·unfold vA;rw [if_neg (by simpa using (aaz.mp hg).2)]
theorem HD:dn ((bf p).map (vA F z))=dn ((bh p F z).map (ce F)):=by
 haveI:dn (((bf p).filter λg => !eW F z g).map λ_=>(0:Int))=0:=wX λx hx=>by obtain ⟨_,_,e⟩:=aaf.mp hx;exact e.symm
 rw [wW BI,Ae,this,Int.add_zero]
theorem qg {e:Int×Int} (h:e∈bU p F z):e.1 = -ce F e.2:=by
 obtain ⟨g,_,rfl⟩:=aaf.mp ((iU _).mem_iff.mp h)
 rfl
theorem HE (hs:AG len z F) (hz:1<=len.fdiv z):dn (((cD ((bf p).map (vA F z))).reverse).take (aV p len F z).toNat)=dn ((aD p len F z).map (ce F)):=by
 haveI hp:(((bU p F z).map λe:Int×Int=>ce F e.2)++((bf p).filter λg => !eW F z g).map λ_=>0).Perm ((bf p).map (vA F z)):=by
  refine List.Perm.trans (List.Perm.append_right _ ?_) BI.symm
  haveI:=(di (p:=p) (F:=F) (z:=z)).map (ce F)
  rw [aaV] at this
  exact this
 haveI hw:(((bU p F z).map λe:Int×Int=>ce F e.2)++((bf p).filter λg => !eW F z g).map λ_=>0).Pairwise (· >= ·):=by
  refine aan.mpr ⟨?_,?_,λa ha b hb=> ?_⟩
  ·refine aaP.mpr ((io _:(bU p F z).Pairwise wo).imp_of_mem λ{a b} ha hb h=> ?_)
   have h1:=qg ha
   have h2:=qg hb
   rcases mL.mp h with h | h
   ·show ce F b.2<=ce F a.2;exact id (AV 0x138209131b2a111b0b13 h1 h2 h)
   ·show ce F b.2<=ce F a.2;exact id (AV 0x13820a131b2a111b0b13 h1 h2 h.1)
  ·exact aaP.mpr (List.pairwise_of_forall λ_ _=>Int.le_refl _)
  ·obtain ⟨e,_,rfl⟩:=aaf.mp ha
   obtain ⟨_,_,rfl⟩:=aaf.mp hb
   exact Int.natCast_nonneg _
 haveI e:=iT ((List.reverse_perm _).trans hp) (List.pairwise_reverse.mpr hw)
 rw [<- e,List.reverse_reverse]
 haveI h1:=B8 (p:=p) hs hz
 haveI h2:=(di (p:=p) (F:=F) (z:=z)).length_eq
 rw [aad] at h2
 rw [List.take_append_of_le_length (by rw [aad,h2];exact Int.toNat_le.mpr h1),<- List.map_take]
 haveI:=(eD (p:=p) (len:=len) (F:=F) (z:=z)).map (ce F)
 rw [aaV] at this
 exact (wW this).symm
end
theorem zf {f:Int->Bool} {h x:Int}:∀ {l:List Int},l.Pairwise (· < ·)->l.find? f=some h->x∈l->f x=true->h<=x
 | [],_,e,_,_=>by cases e
 | a::l,hw,e,hx,hf=>by
  obtain ⟨h1,h2⟩:=aaI.mp hw
  cases ha:f a with
  | true =>
   rw [aaJ ha] at e
   cases e
   rcases aai.mp hx with e | hx
   ·exact Int.le_of_eq e.symm
   ·exact Int.le_of_lt (h1 x hx)
  | false =>
   rw [aay (by rw [ha];exact aaF)] at e
   rcases aai.mp hx with e' | hx
   ·rw [e',ha] at hf;cases hf
   ·exact zf h2 e hx hf
theorem wy:∀ {bs:List Bool} {j i:Nat},bn bs=some j->bs[i]? = some false->j<=i
 | [],_,_,h,_=>by cases h
 | false::r,j,i,h,_=>by cases h;exact Nat.zero_le _
 | true::r,j,i,h,hi=>by
  obtain ⟨j',h1,rfl⟩:=Option.map_eq_some_iff.mp (show (bn r).map (· + 1)=some j from h)
  cases i with
  | zero=>cases hi
  | succ i=>exact Nat.succ_le_succ (wy h1 hi)
structure Ju (len z:Int) (stay:List Int) (F:Vw) (d:Int):Prop where
 ex:∃h bs j,h∈stay/\F h=some (z,bs)/\bs[j]? = some false/\d=h*len+(j:Nat)*z
structure IY (len z:Int) (stay:List Int) (F:Vw):Prop where
 on:∀x∈stay,∃bs,F x=some (z,bs)
 sz:AG len z F
 w:stay.Pairwise (· < ·)
 z:1<=z
 l:1<=len
section
variable {p len z:Int} {stay ns:List Int} {F:Vw}
theorem Ib (h:IY len z stay F) {it:Int×Int} (hm:(stay.find? (zK F)).isSome=true):∃d,A6 ((jX len z stay F it).1=(it.1*len+it.2*z,d)) (IY len z stay (jX len z stay F it).2) (Ju len z stay F d) (∀d',Ju len z stay (jX len z stay F it).2 d'->Ju len z stay F d'/\d+z<=d') (∀x,x∉stay->(jX len z stay F it).2 x=F x) ((stay.map (bZ (jX len z stay F it).2)).sum=(stay.map (bZ F)).sum+1):=by
 obtain ⟨x,hx⟩:=aaT.mp hm
 have hxs:=aa3 hx
 obtain ⟨v,j,hv,hj⟩:=qf (List.find?_some hx)
 obtain ⟨bs,hb⟩:=h.on x hxs
 obtain rfl:v=(z,bs):=Option.some.inj (hv.symm.trans hb)
 rw [tx it hx hv hj]
 have hj:bn bs=some j:=hj
 have hjl:=gw hj
 dsimp only
 refine ⟨_,rfl,⟨λy hy=> ?_,λg v hg hz=> ?_,h.w,h.z,h.l⟩,⟨x,bs,j,hxs,hb,hjl.2,rfl⟩,λd' hd'=> ?_,λy hy=>du _ _ λe=>hy (e▸hxs),?_⟩
 ·by_cases e:y=x
  ·exact ⟨_,by rw [e];exact bQ _ _ _⟩
  ·exact (h.on y hy).imp λ_ hy=>(du _ _ e).trans hy
 ·by_cases e:g=x
  ·rw [e,bQ] at hg
   cases hg
   rw [List.length_set];exact h.sz x _ hb rfl
  ·rw [du _ _ e] at hg;exact h.sz g v hg hz
 ·obtain ⟨y,bs',i,hy,hF,hi,rfl⟩:=hd'
  haveI hn:=h.sz x _ hb rfl
  haveI hz:=h.z
  haveI sl:=slot h.l h.z hn hjl.1
  by_cases e:y=x
  ·subst e
   rw [bQ] at hF
   cases hF
   have hij:i≠j:=λe=>by rw [e,aaA hjl.1] at hi;cases hi
   rw [aaO (Ne.symm hij)] at hi
   haveI h1:=wy hj hi
   haveI h2:=lN (a:=j) (b:=i) (by exact (aat hij).elim (λy2=>cu 0x1f0f9011110022 h1 y2) (λy2=>cu 0x1f0f910111 y2)) h.z
   exact ⟨⟨y,bs,i,hy,hb,hi,rfl⟩,by exact AV 0x23c103cc8210c811 h2⟩
  ·rw [du _ _ e] at hF
   haveI ho:zK F y=true:=by unfold zK;rw [hF];exact pe (List.count_pos_iff.mpr (aaE hi))
   haveI h1:=zf h.w hx hy ho
   haveI h2:=lN (a:=x) (b:=y) (by exact (Int.lt_or_gt_of_ne e).elim (λy2=>pD 0x109019110822 h1 y2) (λy2=>y2)) h.l
   haveI h3:0<=(i:Int)*z:=Int.mul_nonneg (Int.natCast_nonneg _) (by exact bY 0x98019811 hz)
   exact ⟨⟨y,bs',i,hy,hF,hi,rfl⟩,by exact fu [] [_,_,_,_,_,_] 0x54c103cc850981423c81210c813 sl.2 h2 h3⟩
 ·refine (yr (f:=bZ (cS F x (some (z,bs.set j true)))) (f':=bZ F) (h:=x) ?_ (λy hy=> ?_) (mM h.w) hxs).symm
  ·unfold bZ
   rw [bQ,hb]
   have h1:=mG hj
   have h2:=D8 bs
   have h3:=D8 (bs.set j true)
   rw [List.length_set] at h3
   dsimp only;exact id (aag (zI 0x4192c0304c31312c211190c213 h1 h2 h3) (zI 0x192c40304c21312c311190c313 h1 h2 h3))
  ·unfold bZ;rw [du _ _ hy]
structure JW (len z:Int) (stay:List Int) (F:Vw) (its M:List (Int×Int)) (F':Vw):Prop where
 src:M.map (·.1)=its.map λit=>it.1*len+it.2*z
 dst:∀m∈M,Ju len z stay F m.2
 asc:M.Pairwise λa b=>a.2+z<=b.2
 on:IY len z stay F'
 off:∀x,x∉stay->F' x=F x
 sum:(stay.map (bZ F')).sum=(stay.map (bZ F)).sum+its.length
theorem EH:∀ {its:List (Int×Int)} {F:Vw},IY len z stay F->A9 len z stay F its->JW len z stay F its (cX len z stay F its).1 (cX len z stay F its).2
 | [],F,h,_=>⟨rfl,λm hm=>(nomatch hm),.nil,h,λ_ _=>rfl,rfl⟩
 | it::its,F,h,hm=>by
  obtain ⟨d,e,h1,h2,h3,h4,h5⟩:=Ib (it:=it) h hm.1
  have r:=EH (its:=its) h1 hm.2
  rw [pn,e]
  refine ⟨by rw [aaq,aaq,r.src],λm hm=> ?_,aaI.mpr ⟨λm hm=>(h3 _ (r.dst m hm)).2,r.asc⟩,r.on,λx hx=>(r.off x hx).trans (h4 x hx),?_⟩
  ·rcases aai.mp hm with rfl | hm
   ·exact h2
   ·exact (h3 _ (r.dst m hm)).1
  ·rw [r.sum,h5,aas];exact id (aag (cu 0x191c0c1190cc00) (cu 0x1190cc191c0c00))
theorem Fw:∀ {its:List (Int×Int)} {F:Vw},Mv p z stay ns F->A9 len z stay F its->(bj p len (dE (cX len z stay F its).2 ns)).Perm ((cX len z stay F its).1.map (λm=>(m.2,z))++bj p len (dE F ns))
 | [],F,_,_=> .refl _
 | it::its,F,h,hm=>by
  obtain ⟨d,e,h1,h2⟩:=B3 (len:=len) (it:=it) h hm.1
  haveI r:=Fw (its:=its) h1 hm.2
  rw [pn]
  dsimp only
  rw [aaq,e,aa4]
  exact (r.trans (h2.append_left _)).trans List.perm_middle
end
noncomputable def pC (M:List (Int×Int)) (a:Int):Int:=match M with
 | []=>a
 | m::ms=>if m.1=a then m.2 else pC ms a
theorem DV:∀ {M:List (Int×Int)} {a:Int},a∉M.map (·.1)->pC M a=a
 | [],_,_=>rfl
 | m::ms,a,h=>by
  unfold pC
  rw [if_neg λe:m.1=a=>h (e ▸ .head _)]
  exact DV λh'=>h (.tail _ h')
theorem xw:∀ {M:List (Int×Int)},(M.map (·.1)).Nodup-> ∀ {m:Int×Int},m∈M->pC M m.1=m.2
 | [],_,_,h=>by cases h
 | x::ms,hd,m,h=>by
  obtain ⟨h1,h2⟩:=abd.mp hd
  unfold pC
  rcases aai.mp h with rfl | h
  ·rw [if_pos rfl]
  ·rw [if_neg λe:x.1=m.1=>h1 (by show x.1∈_;rw [e];exact List.mem_map_of_mem h)]
   exact xw h2 h
structure Gz (p len z:Int) (F:Vw):Prop where
 inr:∀g v,F g=some v->0<=g/\g<p
 sz:AG len z F
 l:1<=len
 per:1<=len.fdiv z
 z:1<=z
abbrev po (p len:Int) (F:Vw) (z:Int):List Int:=(bh p F z).filter λg => !decide (g∈aD p len F z)
section
variable {p len z:Int} {F:Vw}
theorem Fq:(aD p len F z).Pairwise (· < ·):=((lp _:(aD p len F z).Pairwise (· <= ·)).and (iV (p:=p) (len:=len) (F:=F) (z:=z))).imp λh=>Int.lt_iff_le_and_ne.mpr h
theorem Gz.stq (h:Gz p len z F):IY len z (aD p len F z) F:=⟨λx hx=>j8 (iq hx),h.sz,Fq,h.z,h.l⟩
theorem Gz.mv (h:Gz p len z F):JW len z (aD p len F z) F (bR F (aD p len F z) (bh p F z)) (eO p len F z) (cX len z (aD p len F z) F (bR F (aD p len F z) (bh p F z))).2 :=
 EH h.stq (xK h.sz h.per)
theorem xJ (x:Int):eK p len F z x=if x∈po p len F z then none else (cX len z (aD p len F z) F (bR F (aD p len F z) (bh p F z))).2 x:=rfl
theorem xW {x:Int} (h:x∈aD p len F z):x∉po p len F z:=λhn=>by
 have:=(aaz.mp hn).2
 rw [decide_eq_true h] at this;cases this
theorem Gz.on (h:Gz p len z F) {x:Int} (hx:x∈aD p len F z):∃bs,eK p len F z x=some (z,bs):=by
 rw [xJ,if_neg (xW hx)];exact h.mv.on.on x hx
theorem Gz.off (h:Gz p len z F) {x:Int} (hx:x∉aD p len F z):eW (eK p len F z) z x=false:=by
 unfold eW
 rw [xJ]
 by_cases hn:x∈po p len F z
 ·rw [if_pos hn]
 ·rw [if_neg hn,h.mv.off x hx]
  cases hF:F x with
  | none=>rfl
  | some v =>
   refine decide_eq_false λe=>hn (aaz.mpr ⟨?_,by rw [decide_eq_false hx];rfl⟩)
   rw [rF]
   exact aaz.mpr ⟨bV.mpr (h.inr x v hF),by unfold eW;rw [hF];exact decide_eq_true e⟩
theorem Gz.zs (h:Gz p len z F):bh p (eK p len F z) z=aD p len F z:=by
 haveI h1:(bh p (eK p len F z) z).Pairwise (· < ·):=by rw [rF];exact (eq p).filter _
 haveI hp:(bh p (eK p len F z) z).Perm (aD p len F z):=(List.perm_ext_iff_of_nodup jd iV).mpr λx=>by
  rw [rF,aaz]
  by_cases hx:x∈aD p len F z
  ·obtain ⟨bs,hb⟩:=h.on hx
   obtain ⟨b0,hb0⟩:=j8 (iq hx)
   exact ⟨λ_=>hx,λ_=>⟨bV.mpr (h.inr x _ hb0),by unfold eW;rw [hb];exact decide_eq_true rfl⟩⟩
  ·exact ⟨λq=>absurd q.2 (by rw [h.off hx];exact aaF),λq=>absurd q hx⟩
 exact hp.eq_of_pairwise (λa b _ _ h1 h2=>absurd (Int.lt_trans h1 h2) (Int.lt_irrefl _)) h1 Fq
theorem Gz.cnt (h:Gz p len z F):((aD p len F z).map (bZ (eK p len F z))).sum=((bh p F z).map (bZ F)).sum:=by
 haveI e:(aD p len F z).map (bZ (eK p len F z))=(aD p len F z).map (bZ (cX len z (aD p len F z) F (bR F (aD p len F z) (bh p F z))).2):=aaZ λx hx=>by
  unfold bZ;rw [xJ,if_neg (xW hx)]
 rw [e,h.mv.sum,Nat.add_comm];exact BU
theorem Gz.again (h:Gz p len z F):eO p len (eK p len F z) z=[]/\eK p len (eK p len F z) z=eK p len F z:=by
 haveI hn:aV p len (eK p len F z) z=aV p len F z:=by
  unfold aV
  rw [h.zs,show (aD p len F z).map (ce (eK p len F z))=(aD p len F z).map λg=>((bZ (eK p len F z) g:Nat):Int) from rfl,gC,h.cnt,<- gC];rfl
 have hs:∀x,x∈bh p (eK p len F z) z->x∈aD p len (eK p len F z) z:=λx hx=>by
  refine eD.mem_iff.mpr ?_
  haveI hl:=(di (p:=p) (F:=eK p len F z) (z:=z)).length_eq
  rw [aad,h.zs,Aa (p:=p) h.sz h.per,<- hn] at hl
  rw [List.take_of_length_le (Nat.le_of_eq hl)]
  exact di.mem_iff.mpr hx
 have hi:bR (eK p len F z) (aD p len (eK p len F z) z) (bh p (eK p len F z) z)=[]:=List.flatMap_eq_nil_iff.mpr λx hx=>if_pos (hs x hx)
 haveI hf:(bh p (eK p len F z) z).filter (λg => !decide (g∈aD p len (eK p len F z) z))=[]:=List.filter_eq_nil_iff.mpr λx hx=>by rw [decide_eq_true (hs x hx)];exact aaF
 generalize eK p len F z=F' at *
 exact ⟨by unfold eO;rw [hi];rfl,by unfold eK;rw [hi,hf,qi];rfl⟩
theorem Gz.perm (h:Gz p len z F) {os:List (Int×Int)} (pm:os.Perm (bj p len F)) (hw:(bj p len F).Pairwise λa b=>a.1+a.2<=b.1) (hp:∀e∈bj p len F,1<=e.2) :
  A5 ((os.map λe=>(pC (eO p len F z) e.1,e.2)).Perm (bj p len (eK p len F z))) (∀m∈eO p len F z,(m.1,z)∈os) ((eO p len F z).Pairwise (λa b=>a.1<b.1)) ((bj p len (eK p len F z)).Perm ((eO p len F z).map (λm=>(m.2,z))++bj p len (dE F (po p len F z)))) (∀e∈os,e∈bj p len (dE F (po p len F z))/\pC (eO p len F z) e.1=e.1\/ ∃m∈eO p len F z,e=(m.1,z)/\pC (eO p len F z) e.1=m.2):=by
 haveI hns:(po p len F z).Nodup:=jd.filter _
 have hnm:∀g∈po p len F z,(0<=g/\g<p)/\ ∃bs,F g=some (z,bs):=λg hg=>by
  obtain ⟨bs,hb⟩:=j8 (aaz.mp hg).1
  exact ⟨h.inr g _ hb,bs,hb⟩
 have out:=yA (len:=len) hns hnm
 rw [<- xP] at out
 haveI hMv:Mv p z (aD p len F z) (po p len F z) F:=⟨λx hx=>j8 (iq hx),λx hx=>by
  obtain ⟨bs,hb⟩:=j8 (iq hx)
  exact h.inr x _ hb,λx hx=>xW hx⟩
 have tm:=Fw (its:=bR F (aD p len F z) (bh p F z)) hMv (xK h.sz h.per)
 have es:(bR F (aD p len F z) (bh p F z)).map (IQ len z)=(eO p len F z).map λm=>(m.1,z):=by
  haveI:=congrArg (List.map λa:Int=>(a,z)) h.mv.src
  rw [aaV,aaV] at this
  exact this.symm
 rw [es] at out
 haveI lt:(bj p len F).Pairwise λa b=>a.1≠b.1:=hw.imp_of_mem λ{a b} ha hb h=>by haveI:=hp a ha;exact id (λx9=>tZ 0x909620b111981210c813 h this x9)
 haveI nd:(((eO p len F z).map λm=>(m.1,z))++bj p len (dE F (po p len F z))).Pairwise λa b=>a.1≠b.1:=out.pairwise lt λh e=>h e.symm
 obtain ⟨n1,n2,n3⟩:=aan.mp nd
 have nM:((eO p len F z).map (·.1)).Nodup:=by rw [show (eO p len F z).map (·.1)=((eO p len F z).map λm=>(m.1,z)).map (·.1) by rw [aaV];rfl];exact aaP.mpr n1
 have no:∀e∈bj p len (dE F (po p len F z)),pC (eO p len F z) e.1=e.1:=λe he=>DV λhm=>by
  obtain ⟨m,hm,q⟩:=aaf.mp hm
  exact n3 (m.1,z) (List.mem_map_of_mem (f:=λm:Int×Int=>(m.1,z)) hm) e he q
 refine ⟨?_,λm hm=>(pm.trans out).mem_iff.mpr (aaD _ (List.mem_map_of_mem (f:=λm:Int×Int=>(m.1,z)) hm)),?_,tm,λe he=> ?_⟩
 ·refine ((pm.trans out).map _).trans (List.Perm.trans (List.Perm.of_eq ?_) tm.symm)
  rw [List.map_append,aaV]
  congr 1
  ·exact aaZ λm hm=>by show (pC _ m.1,z)=_;rw [xw nM hm]
  ·exact (aaZ λe he=>by rw [no e he];rfl).trans (List.map_id _)
 ·haveI sub:((eO p len F z).map λm=>(m.1,z)).Sublist (bj p len F):=by
   rw [<- es,xP,jc]
   haveI:((po p len F z).flatMap (uc F)).map (IQ len z)=(po p len F z).flatMap (cU len F):=by
    rw [List.map_flatMap]
    refine kz λg hg=> ?_
    obtain ⟨_,bs,hb⟩:=hnm g hg
    unfold cU uc;rw [hb];dsimp only;rw [aaV];rfl
   rw [this]
   haveI s1:(po p len F z).Sublist (bf p):=by unfold po;rw [rF];exact List.filter_sublist.trans List.filter_sublist
   generalize po p len F z=n0 at s1
   generalize bf p=a0 at s1
   clear this
   induction s1 with
   | slnil=>exact .refl _
   | cons a _ ih=>rw [aaW];exact ih.trans (List.sublist_append_right _ _)
   | cons_cons a _ ih=>rw [aaW,aaW];exact ih.append_left _
  exact (aaP.mp (hw.sublist sub)).imp λ{a b} q=>by haveI:=h.z;dsimp only at q;exact id (tZ 0x20911981210c812 q this)
 ·rcases aap.mp ((pm.trans out).mem_iff.mp he) with q | q
  ·obtain ⟨m,hm,rfl⟩:=aaf.mp q
   exact .inr ⟨m,hm,rfl,xw nM hm⟩
  ·exact .inl ⟨q,no e q⟩
end
theorem tg {a b:Int} {i:Nat}:∀ {ys cs:List Int},(∀y∈ys,(b+y).toNat≠i)->(CV a b cs ys)[i]? = cs[i]?
 | [],_,_=>rfl
 | y::ys,cs,h=>by
  unfold CV
  rw [tg λy' hy'=>h y' (.tail _ hy'),aaO (h y (.head _))]
theorem D7 {a b:Int} {N:Nat}:∀ {ys cs:List Int},cs.length=N->ys.Nodup->(∀y∈ys,(0<=a+y/\a+y<N)/\0<=b+y/\b+y<N)->(∀y∈ys,∀y'∈ys,a+y≠b+y')-> ∀ {y:Int},y∈ys->(CV a b cs ys)[(b+y).toNat]? = cs[(a+y).toNat]?
 | [],_,_,_,_,_,_,h=>by cases h
 | y0::ys,cs,hN,hd,hb,hne,y,hy=>by
  obtain ⟨d1,d2⟩:=abd.mp hd
  unfold CV
  have b0:=hb y0 (.head _)
  rcases aai.mp hy with rfl | hy
  ·rw [tg λy' hy' q=>d1 (by rw [<- (tn (hb y' (.tail _ hy')).2.1 b0.2.1 q |> Int.add_left_cancel:y'=y)];exact hy')]
   rw [aaA (by exact fu [_,_,_] [_,_] 0x2110c2fa11f10c9110313 hN b0.2.2 (aah b0.2.1)),List.getD_eq_getElem?_getD,aal (by exact fu [_,_,_] [_,_] 0x2110c2fa11f10c9110313 hN b0.1.2 (aah b0.1.1))];rfl
  ·rw [D7 (by rw [List.length_set];exact hN) d2 (λy' hy'=>hb y' (.tail _ hy')) (λy1 h1 y2 h2=>hne y1 (.tail _ h1) y2 (.tail _ h2)) hy]
   exact aaO λq=>hne y (.tail _ hy) y0 (.head _) (tn b0.2.1 (hb y (.tail _ hy)).1.1 q).symm
theorem xB {z:Int} {i:Nat}:∀ {M:List (Int×Int)} {cs:List Int},(∀m∈M,∀y,0<=y->y<z->(m.2+y).toNat≠i)->(D5 z cs M)[i]? = cs[i]?
 | [],_,_=>rfl
 | m::M,cs,h=>by
  unfold D5
  rw [xB λm' hm'=>h m' (.tail _ hm')]
  exact tg λy hy=>h m (.head _) y (bV.mp hy).1 (bV.mp hy).2
theorem D6 {z:Int} {N:Nat}:∀ {M:List (Int×Int)} {cs:List Int},cs.length=N->M.Pairwise (λa b=>a.2+z<=b.2)->(∀m∈M,(0<=m.1/\m.1+z<=N)/\0<=m.2/\m.2+z<=N)->(∀m∈M,∀m'∈M,∀y y',(0<=y/\y<z)->(0<=y'/\y'<z)->m.1+y≠m'.2+y') ->
  ∀ {m:Int×Int},m∈M-> ∀ {t:Int},0<=t->t<z->(D5 z cs M)[(m.2+t).toNat]? = cs[(m.1+t).toNat]?
 | [],_,_,_,_,_,_,h,_,_,_=>by cases h
 | m0::M,cs,hN,hw,hb,hne,m,hm,t,t0,t1=>by
  obtain ⟨w1,w2⟩:=aaI.mp hw
  unfold D5
  have b0:=hb m0 (.head _)
  rcases aai.mp hm with rfl | hm
  ·rw [xB λm' hm' y y0 y1 q=>absurd (tn (Int.add_nonneg (hb m' (.tail _ hm')).2.1 y0) (Int.add_nonneg b0.2.1 t0) q) (Int.ne_of_gt (aaX (Int.add_lt_add_left t1 m.2) (aa8 (w1 m' hm') (Int.le_add_of_nonneg_right y0))))]
   exact D7 hN (mM (eq z)) (λy hy=>by have:=bV.mp hy;exact id (⟨⟨pD 0x10c09810981009812 b0.1.1 this.1,fu [_] [_,_,_] 0xf20c912910f10c812 b0.1.2 this.2⟩,pD 0x10c09810981009812 b0.2.1 this.1,fu [_] [_,_,_] 0xf20c912910f10c812 b0.2.2 this.2⟩)) (λy hy y' hy'=>hne m (.head _) m (.head _) y y' (bV.mp hy) (bV.mp hy')) (bV.mpr ⟨t0,t1⟩)
  ·rw [D6 (by rw [xC];exact hN) w2 (λm' hm'=>hb m' (.tail _ hm')) (λa ha b hb=>hne a (.tail _ ha) b (.tail _ hb)) hm t0 t1]
   exact tg λy hy q=>hne m (.tail _ hm) m0 (.head _) t y ⟨t0,t1⟩ (bV.mp hy) (tn (Int.add_nonneg b0.2.1 (bV.mp hy).1) (Int.add_nonneg (hb m (.tail _ hm)).1.1 t0) q).symm
abbrev IJ (l:List (Int×Int)):Prop:=l.Pairwise λa b=>a.1+a.2<=b.1
section
variable {p len z:Int} {F:Vw}
theorem Ew {stay:List Int}:∀ {zs:List Int},(∀g∈zs,∃bs,F g=some (z,bs))-> ∀ {it:Int×Int},it∈bR F stay zs->it.1∉stay/\ ∃bs j,F it.1=some (z,bs)/\bs[j]? = some true/\it.2=((j:Nat):Int):=λ{zs} hz {it} hi=>by
 obtain ⟨g,hg,hi⟩:=List.mem_flatMap.mp hi
 by_cases hs:g∈stay
 ·rw [if_pos hs] at hi;cases hi
 ·rw [if_neg hs] at hi
  obtain ⟨bs,hb⟩:=hz g hg
  unfold uc at hi
  rw [hb] at hi
  obtain ⟨k,hk,rfl⟩:=aaf.mp hi
  obtain ⟨j,rfl,hj⟩:=eE bs 0 k hk
  exact ⟨hs,bs,j,hb,hj,by rw [aa1]⟩
theorem Gz.apart (h:Gz p len z F) {m m':Int×Int} (hm:m∈eO p len F z) (hm':m'∈eO p len F z) {y y':Int} (hy:0<=y/\y<z) (hy':0<=y'/\y'<z):m.1+y≠m'.2+y':=λq=>by
 haveI e:m.1∈(eO p len F z).map (·.1):=List.mem_map_of_mem hm
 rw [h.mv.src] at e
 obtain ⟨it,hit,e⟩:=aaf.mp e
 obtain ⟨h1,bs,j,hF,hj,e2⟩:=Ew (λg hg=>j8 hg) hit
 obtain ⟨x,bs',j',hx,hF',hj',e3⟩:=(h.mv.dst m' hm').ex
 have s1:=slot h.l h.z (h.sz _ _ hF rfl) (aaa.mp hj).1
 have s2:=slot h.l h.z (h.sz _ _ hF' rfl) (aaa.mp hj').1
 rw [e2] at e
 rcases Int.lt_trichotomy it.1 x with hlt | he | hlt
 ·haveI:=lN hlt h.l;exact id (fu [] [_,_,_,_,_,_,_,_,_,_] 0x90967185c810809811816c81087c4b1365cb124c03cb12098110918 hy.2 hy'.1 q e e3 s1.2 s2.1 this)
 ·exact h1 (he▸hx)
 ·haveI:=lN hlt h.l;exact id (fu [] [_,_,_,_,_,_,_,_,_,_] 0x90965187c8118208c8160981087c4a1365ca114c03ca12191009818 hy.1 hy'.2 q e e3 s1.1 s2.2 this)
theorem Gz.cells (h:Gz p len z F) {os:List (Int×Int)} (pm:os.Perm (bj p len F)) {cs:List Int} (hcs:(cs.length:Int)=p*len) (b:∀e∈bj p len F,0<=e.1/\1<=e.2/\e.1+e.2<=p*len)
  (b':∀e∈bj p len (eK p len F z),0<=e.1/\1<=e.2/\e.1+e.2<=p*len) (w:IJ (bj p len F)) (w':IJ (bj p len (eK p len F z))) {e:Int×Int} (he:e∈os) {t:Int} (ht:0<=t/\t<e.2) :
  (D5 z cs (eO p len F z))[(pC (eO p len F z) e.1+t).toNat]? = cs[(e.1+t).toNat]? := by
 obtain ⟨h1,h2,h3,h4,h5⟩:=h.perm pm w λe he=>(b e he).2.1
 haveI dj:=h4.pairwise (w'.imp λ{a b} q=>(Or.inl q:a.1+a.2<=b.1\/b.1+b.2<=a.1)) λq=>q.symm
 obtain ⟨d1,d2,d3⟩:=aan.mp dj
 rcases h5 e he with ⟨q1,q2⟩ | ⟨m,hm,rfl,q2⟩
 ·rw [q2]
  refine xB λm hm y y0 y1 q=> ?_
  haveI a:=d3 (m.2,z) (List.mem_map_of_mem (f:=λm:Int×Int=>(m.2,z)) hm) e q1
  haveI c1:=b' _ (h4.mem_iff.mpr (aaD _ (List.mem_map_of_mem (f:=λm:Int×Int=>(m.2,z)) hm)))
  haveI c2:=b e (pm.mem_iff.mp he)
  have e9:=tn (Int.add_nonneg c1.1 y0) (Int.add_nonneg c2.1 ht.1) q
  rcases a with a | a
  ·exact absurd e9 (Int.ne_of_lt (aaX (Int.add_lt_add_left y1 m.2) (aa8 a (Int.le_add_of_nonneg_right ht.1))))
  ·exact absurd e9 (Int.ne_of_gt (aaX (Int.add_lt_add_left ht.2 e.1) (aa8 a (Int.le_add_of_nonneg_right y0))))
 ·rw [q2]
  refine D6 (N:=cs.length) rfl h.mv.asc (λm hm=> ?_) (λm hm m' hm' y y' hy hy'=>h.apart hm hm' hy hy') hm ht.1 ht.2
  have c1:=b' _ (h4.mem_iff.mpr (aaD _ (List.mem_map_of_mem (f:=λm:Int×Int=>(m.2,z)) hm)))
  have c2:=b _ (pm.mem_iff.mp (h2 m hm))
  rw [hcs]
  exact ⟨⟨c2.1,c2.2.2⟩,c1.1,c1.2.2⟩
end
noncomputable def ct (len z:Int):List (Int×Int)->Int->Int
 | [],_=>0
 | e::es,g=>(if e.2=z/\e.1.fdiv len=g then 1 else 0)+ct len z es g
theorem G8 (len z g:Int):∀es:List (Int×Int),ct len z es g=(((onPg len g es).count z:Nat):Int)
 | []=>rfl
 | e::es=>by
  unfold ct
  rw [G8 len z g es]
  by_cases h:e.1.fdiv len=g
  ·haveI e1:onPg len g (e::es)=e.2::onPg len g es:=by unfold onPg;rw [aaL (p:=λe:Int×Int=>decide (e.1.fdiv len=g)) (decide_eq_true h)];rfl
   rw [e1,List.count_cons]
   by_cases h2:e.2=z
   ·rw [if_pos ⟨h2,h⟩,if_pos (beq_iff_eq.mpr h2)];exact id (aaU (b9 0x190cf0f19c80) (b9 0xf19c190cf80))
   ·rw [if_neg λq=>h2 q.1,if_neg (by rw [beq_iff_eq];exact h2)];exact id (aaU (b9 0x90cf0f09c80) (b9 0xf09c090cf80))
  ·haveI e1:onPg len g (e::es)=onPg len g es:=by unfold onPg;rw [aaG (by rw [decide_eq_false h];exact aaF)]
   rw [e1,if_neg λq=>h q.2,Int.zero_add]
theorem qL {p i:Int} (h0:0<=i) (h1:i<p):(bf p)[i.toNat]? = some i:=by
 unfold bf
 rw [abf,List.getElem?_range (by exact fu [_,_] [_,_] 0x1011f18100fa110913 h1 (aah h0) (aaY _))]
 exact congrArg some (aah h0)
theorem fX (p:Int):(bf p).length=p.toNat:=by unfold bf;rw [aad,List.length_range]
theorem CQ {p i:Int} (f:Int->Int) (h0:0<=i) (h1:i<p):((bf p).map f).set i.toNat (f i+1)=(bf p).map λg=>f g+if i=g then 1 else 0:=by
 refine List.ext_getElem (by rw [List.length_set,aad,aad]) λk k1 k2=> ?_
 rw [List.getElem_set,List.getElem_map]
 have hk:k<(bf p).length:=by rw [aad] at k2;exact k2
 have e:(bf p)[k]=(k:Int):=by
  haveI:=qL (p:=p) (i:=(k:Int)) (Int.natCast_nonneg _) (by rw [fX] at hk;exact id (jF 0xf901fa110112 hk (aah (pD 0x10981091009812 h0 h1))))
  rw [Int.toNat_natCast] at this
  exact (aaa.mp this).2
 rw [List.getElem_map]
 by_cases hi:i.toNat=k
 ·have:i=(k:Int):=by exact aaU (jF 0x1f080f08110212 hi (aaY _)) (jF 0x1f800fa110312 hi (aah h0))
  rw [if_pos hi,e,if_pos this,this]
 ·rw [if_neg hi,e,if_neg (by exact λx9=>(aat hi).elim (λy2=>jF 0x90961f08101110f0b13 x9 y2 (aaY _)) (λy2=>jF 0x909601fa110110f0a13 x9 y2 (aah h0))),Int.add_zero]
theorem Dm {H:Hp} {l:bp} {n:Nat} {ns:List Int} (h:H[n]? = some (.list (ns.map V.int))) (hl:ns.length<64):j4 [.ref n] ⟨l,H⟩= .ok (.ref H.length) ⟨l,H++[.list ((cD ns).reverse.map V.int)]⟩:=by
 unfold j4;dsimp only;rw [h];dsimp only;rw [kK];exact if_pos hl
theorem GC {H:Hp} {l:bp} {n:Nat} {ps:List Int} {b:Int} (h:H[n]? = some (.list (ps.map V.int))) (hl:ps.length<=1000000) (hb:0<=b):sr (.ref n) (.int b) ⟨l,H⟩= .ok (.ref H.length) ⟨l,H++[.list ((ps.take b.toNat).map V.int)]⟩:=by
 haveI:0<=b/\(ps.map V.int).length<=1000000:=⟨hb,by rw [aad];exact hl⟩
 unfold sr;dsimp only;rw [bX h];dsimp only;rw [if_pos this,List.map_take]
section
variable {col:Nat->Nat} {H:Hp} {p len:Int} {xs:List Int} {ri o za:Nat} {r:Rm} {os:List (Int×Int)} {l:bp}
theorem OG.gap (h:OG col H p len xs ri o za r os):IJ (bj p len (look r.ss)):=by
 rw [jc]
 have hL:=h.r.ok.len
 rw [h.r.rl] at hL
 refine List.pairwise_flatMap.mpr ⟨λg _=> ?_,(eq p).imp λ{a b} hab x hx y hy=> ?_⟩
 ·unfold cU
  cases hF:look r.ss g with
  | none=>exact .nil
  | some v =>
   obtain ⟨s,hs,y1,y2⟩:=bB hF
   haveI hz:=(h.r.ok.szpos (aS hs).1).1
   rw [y1] at hz
   exact aaP.mpr ((xd v.2 0).2.imp λ{a b} hab=>by haveI:=lN hab hz;dsimp only;exact id (AV 0x23c103cc8210c811 this))
 ·haveI h1:=(h.on hy).1
  haveI h2:=lN hab hL.1
  haveI h3:x.1+x.2<=a*len+len:=by
   unfold cU at hx
   cases hF:look r.ss a with
   | none=>rw [hF] at hx;cases hx
   | some v =>
    rw [hF] at hx
    obtain ⟨k,hk,rfl⟩:=aaf.mp hx
    obtain ⟨j,rfl,hj⟩:=eE v.2 0 k hk
    rw [aa1]
    have hj:=(aaa.mp hj).1
    obtain ⟨_,_,hz⟩:=h.page (z:=v.1) (bs:=v.2) hF hj
    obtain ⟨u1,u2⟩:=slot hL.1 hz (h.szok v.1 a _ hF rfl) hj
    dsimp only;exact id (AV 0x23c103cc8210c811 u2)
  exact id (fu [] [_,_,_,_,_,_] 0x154c832c54c81032c8110813 h1 h2 h3)
theorem OG.in9 (h:OG col H p len xs ri o za r os) {e:Int×Int} (he:e∈bj p len (look r.ss)):0<=e.1/\1<=e.2/\e.1+e.2<=p*len:=by
 have hL:=h.r.ok.len
 rw [h.r.rl] at hL
 obtain ⟨g,z,bs,j,hF,hj,rfl⟩:=gp he
 have lj:=(aaa.mp hj).1
 have hz:=(h.page hF lj).2.2
 obtain ⟨u1,u2⟩:=slot hL.1 hz (h.szok z g _ hF rfl) lj
 have hg:=h.inr g _ hF
 haveI h1:=lN hg.2 hL.1
 haveI h2:0<=g*len:=Int.mul_nonneg hg.1 (by exact bY 0x98019811 hL.1)
 dsimp only
 exact id (⟨pD 0x1c09810981009812 u1 h2,hz,fu [] [_,_,_,_,_] 0x4103cc8423c81210c812 u2 h1⟩)
theorem OG.szin (h:OG col H p len xs ri o za r os) {e:Int×Int} (he:e∈bj p len (look r.ss)):e.2∈xs:=by
 obtain ⟨g,z,bs,j,hF,hj,rfl⟩:=gp he
 obtain ⟨s,hs,y1,y2⟩:=bB hF
 haveI:=h.r.ok.in' s (aS hs).1
 rw [h.r.rx,y1] at this;exact this
theorem OG.gz (h:OG col H p len xs ri o za r os) {z:Int} (hz:z∈xs):Gz p len z (look r.ss):=by
 have hL:=h.r.ok.len
 rw [h.r.rl] at hL
 have z1:=h.sz.low z hz
 obtain ⟨u1,u2,u3,u4⟩:=c7 (a:=len) (b:=z) (by exact bY 0x98019811 hL.1) z1
 exact ⟨h.inr,h.szok z,hL.1,tQ u1 u4 (h.sz.top z hz),z1⟩
theorem OG.cnts (h:OG col H p len xs ri o za r os) (pm:os.Perm (bj p len (look r.ss))) (z:Int):(bf p).map (ct len z os)=(bf p).map (vA (look r.ss) z):=aaZ λg hg=>by
 rw [G8,h.onPg pm (bV.mp hg)]
 unfold vA eW ce bZ
 cases look r.ss g with
 | none=>rfl
 | some v =>
  dsimp only
  rw [List.count_replicate]
  by_cases e:v.1=z
  ·rw [if_pos (beq_iff_eq.mpr e),if_pos (decide_eq_true e)]
  ·rw [if_neg (by rw [beq_iff_eq];exact e),if_neg (by rw [decide_eq_false e];exact aaF)];rfl
theorem B7 {n:Nat} {z:Int} {cs:List V} (ho:H[o]? = some (.list cs)) (hno:n≠o) (hl0:len≠0) (hp:p<=40):∀(es:List (Int×Int)) {f:Int->Int} {H1:Hp} {l:bp},(∀e∈es,0<=e.1.fdiv len/\e.1.fdiv len<p)->cA [n] H H1->H1[n]? = some (.list (((bf p).map f).map V.int))->l "_law_size" = some (.int z)->l "_law_drawn" = some (.tup [.int p,.int len,.ref za])->l "_law_counts" = some (.ref n) ->
  ∃(l':bp) (H2:Hp),A4 (df (λH=>av (.ref o) H=some cs) (aL "_law_pair") (iy) (es.map aw) ⟨l,H1⟩= .ok .next ⟨l',H2⟩) (cA [n] H H2) (H2[n]? = some (.list (((bf p).map λg=>f g+ct len z es g).map V.int))) (∀y,y ≠ "_law_pair" -> l' y=l y)
 | [],f,H1,l,_,hc,hn,_,_,_=>⟨l,H1,rfl,hc,by rw [hn];congr 4;funext g;exact (Int.add_zero _).symm,λ_ _=>rfl⟩
 | e::es,f,H1,l,he,hc,hn,h1,h2,h3=>by
  refine nH λG kG=> ?_
  refine bz (upd l "_law_pair" (.tup [.int e.1,.int e.2])) λl1 e1=> ?_
  have p1:=ay e1
  have a1:=ah e1 ∅ h1
  have a2:=ah e1 ∅ h2
  have a3:=ah e1 ∅ h3
  have d0:∀q,aJ (.tup [.int e.1,.int e.2]) (.int 0) q= .ok (.int e.1) q:=λq=>rfl
  have d1:∀q,aJ (.tup [.int e.1,.int e.2]) (.int 1) q= .ok (.int e.2) q:=λq=>rfl
  have d2:∀q,aJ (.tup [.int p,.int len,.ref za]) (.int 1) q= .ok (.int len) q:=λq=>rfl
  haveI ho1:∀ {H2:Hp},cA [n] H H2->H2[o]? = some (.list cs):=λc=>c.get ho λq=>hno (aaj.mp q).symm
  have iG:∀ {f':Int->Int} {H2:Hp},iy ⟨l1,H1⟩= .ok .next ⟨l1,H2⟩->cA [n] H H2->H2[n]? = some (.list (((bf p).map f').map V.int))->(∀g,f' g+ct len z es g=f g+ct len z (e::es) g)->G:=λ{f' H2} tb c2 n2 q=>by
   obtain ⟨l3,H3,t3,c3,n3,k3⟩:=B7 ho hno hl0 hp es (λx hx=>he x (.tail _ hx)) c2 n2 a1 a2 a3
   exact kG ⟨l3,H3,(bP (bq (g_set e1) tb) (dK (ho1 c2))).trans t3,c3,by rw [n3];congr 4;funext g;exact q g,λy hy=>by rw [k3 y hy,<- e1,eP _ _ hy]⟩
  by_cases hz:e.2=z
  ·refine bz (e.1.fdiv len) λi ei=> ?_
   have hi:=he e (.head _)
   rw [ei] at hi
   haveI k1:∀q,nZ (.int e.2) (.int z) q= .ok true q:=λq=>lH (decide_eq_true hz)
   have dv:∀q,cT (.int e.1) (.int len) q= .ok (.int i) q:=λq=>fN hl0 ei
   haveI it:aJ (.ref n) (.int i) ⟨l1,H1⟩= .ok (.int (f i)) ⟨l1,H1⟩:=xO hn ⟨hi.1,by exact pD 0xf4240a190191000028a0812 hp hi.2⟩ (by rw [abf,abf,qL hi.1 hi.2];rfl)
   haveI st:=Fg (l:=l1) (.int (f i+1)) hn (i:=i.toNat) (by rw [aad,aad,fX];exact id (fu [_,_] [_,_] 0x1011f18100fa110913 hi.2 (aah hi.1) (aaY _))) (by rw [aad,aad,fX];exact id (ge 0xf4240a0000fa1000028a0812 hp (aah (pD 0x10981091009812 hi.1 hi.2))))
   rw [aah hi.1,<- List.map_set,CQ f hi.1 hi.2] at st
   refine bz (H1.set n (.list (((bf p).map λg=>f g+if i=g then 1 else 0).map V.int))) λH2 eH2=> ?_
   rw [eH2] at st
   refine iG (f':=λg=>f g+if i=g then 1 else 0) (H2:=H2) ?_ (hc.trans (eH2▸cA.set (.head _))) (by rw [<- eH2];exact aaA (bJ hn)) λg=> ?_
   ·exists p1,d1,a1,k1,a3,d0,a2,d2,dv,it,st
   ·show _=f g+((if e.2=z/\e.1.fdiv len=g then 1 else 0)+ct len z es g)
    by_cases q:i=g
    ·rw [if_pos q,if_pos ⟨hz,ei.trans q⟩,Int.add_assoc]
    ·rw [if_neg q,if_neg λx=>q (ei.symm.trans x.2),Int.add_zero,Int.zero_add]
  ·haveI k1:∀q,nZ (.int e.2) (.int z) q= .ok false q:=λq=>lH (decide_eq_false hz)
   refine iG (f':=f) (H2:=H1) ?_ hc hn λg=> ?_
   ·exists p1,d1,a1,k1
   ·show _=f g+((if e.2=z/\e.1.fdiv len=g then 1 else 0)+ct len z es g)
    rw [if_neg λx=>hz x.1,Int.zero_add]
theorem FC (h:OG col H p len xs ri o za r os) (pm:os.Perm (bj p len (look r.ss))) {z:Int} (hz:z∈xs):∃n H',A4 (ky [.int z,.tup [.int p,.int len,.ref za],.ref o] H =
  .ok (.tup [.int (aV p len (look r.ss) z),.int ((eO p len (look r.ss) z).length:Nat),.ref n]) H') (H<+:H') (H.length<=n) (H'[n]? = some (.list (((bf p).map (vA (look r.ss) z)).map V.int))):=by
 refine nH λG kG=> ?_
 have gz:=h.gz hz
 haveI hL:=h.r.ok.len
 have hP:=h.r.ok.p
 rw [h.r.rl] at hL
 rw [h.r.rp] at hP
 refine bz (a9 ["_law_size", "_law_drawn", "_law_out"] [.int z,.tup [.int p,.int len,.ref za],.ref o]) λl0 e0=> ?_
 have a1:l0 "_law_size" = some (.int z):=e0▸rfl
 have a2:l0 "_law_drawn" = some (.tup [.int p,.int len,.ref za]):=e0▸rfl
 haveI a3:l0 "_law_out" = some (.ref o):=e0▸rfl
 haveI d0:∀q,aJ (.tup [.int p,.int len,.ref za]) (.int 0) q= .ok (.int p) q:=λq=>rfl
 haveI d1:∀q,aJ (.tup [.int p,.int len,.ref za]) (.int 1) q= .ok (.int len) q:=λq=>rfl
 refine bz (len.fdiv z) λsl esl=> ?_
 haveI hsl:1<=sl:=esl▸gz.per
 haveI dv:∀q,cT (.int len) (.int z) q= .ok (.int sl) q:=λq=>fN (by haveI:=gz.z;exact id (λx9=>bY 0x9096090a1019812 this x9)) esl
 refine bz (upd l0 "_law_slots" (.int sl)) λl1 e1=> ?_
 haveI t1:nq ⟨l0,H⟩= .ok .next ⟨l1,H⟩:=by exists a2,d1,a1,dv,e1
 have b2:=ah e1 ∅ a2
 refine bz (H++[O.list [V.int 0]]) λH1 eH1=> ?_
 haveI mu:=xR (H:=H1) (l:=l1) (i:=H.length) (a:=(0:Int)) (f:=V.int) (k:=p) (by rw [<- eH1];exact aN _ _) ⟨by exact bY 0x98019811 hP.1,by exact bY 0xf4240a08000028a0811 hP.2⟩
 refine bz (H1++[O.list ((List.replicate p.toNat (0:Int)).map V.int)]) λH2 eH2=> ?_
 rw [eH2] at mu
 haveI nl:eU [.int 0] ⟨l1,H⟩= .ok (.ref H.length) ⟨l1,H1⟩:=by rw [mX,if_pos ∅,eH1]
 refine bz (upd l1 "_law_counts" (.ref H1.length)) λl2 e2=> ?_
 haveI t2:nt ⟨l1,H⟩= .ok .next ⟨l2,H2⟩:=by exists nl,b2,d0,mu,e2
 have p1:H<+:H1:=⟨_,eH1⟩
 have p2:H1<+:H2:=⟨_,eH2⟩
 haveI hn:H2[H1.length]? = some (.list (((bf p).map λ_=>0).map V.int)):=by
  rw [<- eH2,aN,List.map_const',fX]
 have ho2:=aA (p1.trans p2) h.o
 haveI hno:H1.length≠o:=λe=>absurd (bJ h.o) (Nat.not_lt.mpr (e▸p1.length_le))
 obtain ⟨l3,H3,t3,c3,n3,k3⟩:=B7 (za:=za) (z:=z) ho2 hno (by exact λx9=>bY 0x9096090a1019812 hL.1 x9:len≠0) hP.2 os (l:=l2) (λe he=>by
  obtain ⟨g,z',bs,j,hF,hj,rfl⟩:=gp (pm.mem_iff.mp he)
  rw [(h.page hF (aaa.mp hj).1).1];exact h.inr g _ hF) (cA.refl _ _) hn (ah e2 ∅ (ah e1 ∅ a1)) (ah e2 ∅ b2) (ay e2)
 have ez:((bf p).map λg=>0+ct len z os g)=(bf p).map (vA (look r.ss) z):=by
  rw [<- h.cnts pm z];exact aaZ λg _=>Int.zero_add _
 rw [ez] at n3
 haveI p3:H<+:H3:=BG (((cA.pre (F:=[H1.length]) (p1.trans p2))).trans c3) λi hi=>by rw [aaj.mp hi];exact p1.length_le
 have hCl:((bf p).map (vA (look r.ss) z)).length<=40:=by rw [aad,fX];exact id (ge 0x28a0000fa1000028a0812 hP.2 (aah (bY 0x98019811 hP.1)))
 refine bz ((bf p).map (vA (look r.ss) z)) λC eC=> ?_
 have hsum:dn C=dn ((bh p (look r.ss) z).map (ce (look r.ss))):=by rw [<- eC,HD]
 haveI htop:dn (((cD C).reverse).take (aV p len (look r.ss) z).toNat)=dn ((aD p len (look r.ss) z).map (ce (look r.ss))):=by rw [<- eC];exact HE gz.sz gz.per
 haveI hmv:dn ((bh p (look r.ss) z).map (ce (look r.ss)))-dn ((aD p len (look r.ss) z).map (ce (look r.ss)))=((eO p len (look r.ss) z).length:Nat):=by
  have h1:=BU (p:=p) (len:=len) (F:=look r.ss) (z:=z)
  haveI h2:(eO p len (look r.ss) z).length=(bR (look r.ss) (aD p len (look r.ss) z) (bh p (look r.ss) z)).length:=wM
  haveI s1:=gC (bZ (look r.ss)) (bh p (look r.ss) z)
  haveI s2:=gC (bZ (look r.ss)) (aD p len (look r.ss) z)
  show dn ((bh p (look r.ss) z).map λg=>((bZ (look r.ss) g:Nat):Int))-dn ((aD p len (look r.ss) z).map λg=>((bZ (look r.ss) g:Nat):Int))=_
  rw [s1,s2,h2];exact id (aaU (lh 0xf1f2fe8210c311 h1) (lh 0x1f2fe0f8210c211 h1))
 haveI hned:=gk (p:=p) (F:=look r.ss) gz.per
 haveI ened:(dn C+sl-1).fdiv sl=aV p len (look r.ss) z:=by rw [hsum,<- esl];rfl
 rw [eC] at n3 hCl
 haveI rs:=Cl (l:=l3) n3 (by exact b9 0xf4240a00000028a0011 hCl)
 refine bz (aV p len (look r.ss) z) λnd end'=> ?_
 rw [end'] at htop hned ened
 haveI dv4:∀q,cT (.int (dn C+sl-1)) (.int sl) q= .ok (.int nd) q:=λq=>fN (by exact λx9=>bY 0x9096090a1019812 hsl x9) ened
 refine bz (upd l3 "_law_needed_here" (.int nd)) λl4 e4=> ?_
 have c3c:l3 "_law_counts" = some (.ref H1.length):=by rw [k3 _ ∅];exact ay e2
 have c3s:l3 "_law_slots" = some (.int sl):=by rw [k3 _ ∅];exact ah e2 ∅ (ay e1)
 haveI t4:nu ⟨l3,H3⟩= .ok .next ⟨l4,H3⟩:=by exists c3c,rs,c3s,dv4,e4
 haveI rs4:=Cl (l:=l4) n3 (by exact b9 0xf4240a00000028a0011 hCl)
 haveI so:=Dm (l:=l4) n3 (by exact b9 0x40a01000028a0011 hCl)
 refine bz (H3++[O.list ((cD C).reverse.map V.int)]) λH4 eH4=> ?_
 rw [eH4] at so
 haveI tk:=GC (l:=l4) (H:=H4) (n:=H3.length) (ps:=(cD C).reverse) (b:=nd) (by rw [<- eH4];exact aN _ _) (by rw [aa7,(fk C).length_eq];exact id (b9 0xf4240a00000028a0011 hCl)) hned
 refine bz (H4++[O.list (((cD C).reverse.take nd.toNat).map V.int)]) λH5 eH5=> ?_
 rw [eH5] at tk
 haveI rs5:=Cl (l:=l4) (H:=H5) (n:=H4.length) (ks:=(cD C).reverse.take nd.toNat) (by rw [<- eH5];exact aN _ _) (by rw [abc,aa7,(fk C).length_eq];exact id (cu 0xf4240a100101000028a0012 hCl (Nat.min_le_right _ _)))
 rw [htop] at rs5
 have p5:H3<+:H5:=List.IsPrefix.trans ⟨_,eH4⟩ ⟨_,eH5⟩
 have c4c:=ah e4 ∅ c3c
 rw [end',eC,<- hmv,<- hsum] at kG
 refine kG ⟨H1.length,H5,bg (m:=pX) (q:=⟨l4,H5⟩) rfl ?_,p3.trans p5,p1.length_le,aA p5 n3⟩
 rw [e0]
 refine ak t1 (ak t2 (ak (q':=⟨l3,H3⟩) (bq (bq (g_get (ah e2 ∅ (ah e1 ∅ a3))) (iI ho2)) t3) (ak t4 ?_)))
 exists ay e4,c4c,rs4,so,tk,rs5
end
section
variable {H:Hp} {n:Nat} {cs:List V} {a:Int}
theorem BC (hn:H[n]? = some (.list cs)):∀(ms:List (Int×Int)) {l:bp},l "_law_place" = some (.int a) ->
  (∃l',df (λH=>av (.ref n) H=some cs) (aL "_law_move") (dR) (ms.map aw) ⟨l,H⟩= .ok .next ⟨l',H⟩/\l' "_law_place" = some (.int a)/\pC ms a=a) \/
  ∃l',df (λH=>av (.ref n) H=some cs) (aL "_law_move") (dR) (ms.map aw) ⟨l,H⟩= .ok (.ret (.int (pC ms a))) ⟨l',H⟩
 | [],l,h=> .inl ⟨l,rfl,h,rfl⟩
 | m::ms,l,h=>by
  refine bz (upd l "_law_move" (.tup [.int m.1,.int m.2])) λl1 e1=> ?_
  have p1:=ay e1
  have a1:=ah e1 ∅ h
  have d0:∀q,aJ (.tup [.int m.1,.int m.2]) (.int 0) q= .ok (.int m.1) q:=λq=>rfl
  haveI d1:∀q,aJ (.tup [.int m.1,.int m.2]) (.int 1) q= .ok (.int m.2) q:=λq=>rfl
  by_cases hm:m.1=a
  ·haveI k1:∀q,nZ (.int m.1) (.int a) q= .ok true q:=λq=>lH (decide_eq_true hm)
   haveI tb:dR ⟨l1,H⟩= .ok (.ret (.int m.2)) ⟨l1,H⟩:=by exists p1,d0,a1,k1,d1
   refine .inr ⟨l1,?_⟩
   unfold pC
   rw [if_pos hm]
   exact tT (bq (g_set e1) tb)
  ·haveI k1:∀q,nZ (.int m.1) (.int a) q= .ok false q:=λq=>lH (decide_eq_false hm)
   haveI tb:dR ⟨l1,H⟩= .ok .next ⟨l1,H⟩:=by exists p1,d0,a1,k1
   have nx:=bP (r:=ms.map aw) (x:=aw m) (g:=λH=>av (.ref n) H=some cs) (bq (g_set e1) tb) (dK hn)
   unfold pC
   rw [if_neg hm]
   rcases BC hn ms a1 with ⟨l2,t,q1,q2⟩ | ⟨l2,t⟩
   ·exact .inl ⟨l2,nx.trans t,q1,q2⟩
   ·exact .inr ⟨l2,nx.trans t⟩
theorem Ak {M:List (Int×Int)} (hn:H[n]? = some (.list (M.map aw))) (a:Int):ic [.int a,.ref n] H= .ok (.int (pC M a)) H:=by
 refine bz (a9 ["_law_place", "_law_moves"] [.int a,.ref n]) λl0 e0=> ?_
 haveI a1:l0 "_law_place" = some (.int a):=e0▸rfl
 have a2:l0 "_law_moves" = some (.ref n):=e0▸rfl
 rcases BC hn M a1 with ⟨l2,t,q1,q2⟩ | ⟨l2,t⟩
 ·refine bg (m:=kZ) (q:=⟨l2,H⟩) rfl ?_
  rw [e0,q2]
  exact ak (q':=⟨l2,H⟩) (bq (bq (g_get a2) (iI hn)) t) (bq (g_get q1) rfl)
 ·refine bg (m:=kZ) (q:=⟨l2,H⟩) rfl ?_
  rw [e0]
  exact fS (bq (bq (g_get a2) (iI hn)) t)
end
noncomputable def I8:V->Option V
 | .tup (a::_)=>some a
 | _=>none
theorem Ek (os:List (Int×Int)):(os.map aw).filterMap I8=(os.map (·.1)).map V.int:=by
 rw [List.filterMap_map,aaV,<- List.filterMap_eq_map];rfl
structure JE (p len z:Int) (F:Vw) (os:List (Int×Int)) (m:Int×Int):Prop where
 i:(m.1,z)∈os
 d:∃(x:Int) (j:Nat),m.2=x*len+j*z/\(0<=x/\x<p)/\(0<=(j:Int)*z/\(j:Int)*z+z<=len)/\(j:Int)<len.fdiv z/\vA F z x≠0
structure JC (n nc o np:Nat) (z len:Int) (l:bp):Prop where
 m:l "_law_moves" = some (.ref n)
 z:l "_law_size" = some (.int z)
 c:l "_law_counts" = some (.ref nc)
 o:l "_law_out" = some (.ref o)
 p:l "_law_places" = some (.ref np)
 l:l "_law_length" = some (.int len)
section
variable {H:Hp} {n nc o np:Nat} {p len z:Int} {F:Vw} {os:List (Int×Int)} {cs:List V}
theorem BO (hn:H[n]? = some (.list cs)) (hc:H[nc]? = some (.list (((bf p).map (vA F z)).map V.int))) (ho:H[o]? = some (.list (os.map aw))) (h1:np≠n) (h2:np≠nc) (h3:np≠o) (hz:1<=z) (hl:1<=len/\len<=60) (hp:1<=p/\p<=40) :
  ∀(ms:List (Int×Int)) {done:List Int} {H1:Hp} {l:bp},(∀m∈ms,JE p len z F os m)->(done++ms.map (·.2)).Nodup->done.length+ms.length<1000000->cA [np] H H1->H1[np]? = some (.list (done.map V.int))->JC n nc o np z len l ->
  ∃(l':bp) (H2:Hp),df (λH=>av (.ref n) H=some cs) (aL "_law_move") (fC) (ms.map aw) ⟨l,H1⟩= .ok .next ⟨l',H2⟩/\cA [np] H H2
 | [],done,H1,l,_,_,_,hch,_,_=>⟨l,H1,rfl,hch⟩
 | m::ms,done,H1,l,hf,hd,hln,hch,hpl,hL=>by
  refine nH λG kG=> ?_
  refine bz (upd l "_law_move" (.tup [.int m.1,.int m.2])) λl1 e1=> ?_
  have p1:=ay e1
  have L1:JC n nc o np z len l1:=⟨ah e1 ∅ hL.m,ah e1 ∅ hL.z,ah e1 ∅ hL.c,ah e1 ∅ hL.o,ah e1 ∅ hL.p,ah e1 ∅ hL.l⟩
  haveI d0:∀q,aJ (.tup [.int m.1,.int m.2]) (.int 0) q= .ok (.int m.1) q:=λq=>rfl
  have d1:∀q,aJ (.tup [.int m.1,.int m.2]) (.int 1) q= .ok (.int m.2) q:=λq=>rfl
  obtain ⟨hi,x,j,em,hx,hj,hjs,hcz⟩:=hf m (.head _)
  have gt:∀ {i:Nat} {ob:O} {H2:Hp},cA [np] H H2->np≠i->H[i]? = some ob->H2[i]? = some ob:=λc q e=>c.get e λhm=>q (aaj.mp hm).symm
  haveI hn1:=gt hch h1 hn
  have hc1:=gt hch h2 hc
  haveI ho1:=gt hch h3 ho
  haveI iv:=zq (l:=l1) ho1 m.1 z
  rw [decide_eq_true hi] at iv
  haveI hdn:m.2∉done:=λhm=>by
   rw [aaq] at hd
   exact (aan.mp hd).2.2 m.2 hm m.2 (.head _) rfl
  haveI ip:=nN (q:=⟨l1,H1⟩) (a:=m.2) hpl
  rw [decide_eq_false hdn] at ip
  haveI hxl:=lN hx.2 hl.1
  haveI hx0:0<=x*len:=Int.mul_nonneg hx.1 (by exact bY 0x98019811 hl.1)
  haveI k1:decide ((0:Int)<=m.2)=true:=decide_eq_true (by exact tZ 0x98109812098121c0b13 em hj.1 hx0)
  haveI lc:=cE (l:=l1) hc1 (by rw [aad,aad,fX];exact id (ge 0xf4240a0100fa1000028a0812 hp.2 (aah (bY 0x98019811 hp.1))))
  haveI ecl:((((bf p).map (vA F z)).map V.int).length:Int)=p:=by rw [aad,aad,fX];exact id (aaU (ge 0xf800fa11 (aah (bY 0x98019811 hp.1))) ((aaY _)))
  rw [ecl] at lc
  haveI mu:∀q,ik (.int len) (.int p) q= .ok (.int (len*p)) q:=λq=>wR _ _ _ (IO (by exact bY 0x98019811 hl.1) (by exact bY 0xf4240a0900003ca0811 hl.2))
  haveI k2:decide (m.2<len*p)=true:=decide_eq_true (by rw [Int.mul_comm];exact id (fu [] [_,_,_,_,_,_] 0x519542c81403c8132c1a1019814 hz em hj.2 hxl))
  have fd:=Jy (q:=x) (b:=len) (r:=j*z) hj.1 (by exact tZ 0x219201c81019812 hz hj.2)
  rw [<- em] at fd
  haveI mo:∀q,bS (.int m.2) (.int len) q= .ok (.int (j*z)) q:=λq=>dX (by exact λx9=>bY 0x9096090a1019812 hl.1 x9) fd.2
  haveI dm:∀q,cT (.int m.2) (.int len) q= .ok (.int x) q:=λq=>fN (by exact λx9=>bY 0x9096090a1019812 hl.1 x9) fd.1
  have f0:=I7 (q:=(j:Int)) (b:=z) (by exact bY 0x99019811 hz)
  haveI mz:∀q,bS (.int (j*z)) (.int z) q= .ok (.int 0) q:=λq=>dX (by exact λx9=>bY 0x9096090a1019812 hz x9) f0.2
  haveI dz:∀q,cT (.int (j*z)) (.int z) q= .ok (.int j) q:=λq=>fN (by exact λx9=>bY 0x9096090a1019812 hz x9) f0.1
  refine bz (len.fdiv z) λsl esl=> ?_
  rw [esl] at hjs
  haveI dl:∀q,cT (.int len) (.int z) q= .ok (.int sl) q:=λq=>fN (by exact λx9=>bY 0x9096090a1019812 hz x9) esl
  haveI k0:∀q,nZ (.int 0) (.int 0) q= .ok true q:=λq=>lH rfl
  haveI k3:∀q,dA .GtE (.int j) (.int sl) q= .ok false q:=λq=>congrArg (sG.ok · q) (decide_eq_false (by exact ge 0xf0c00f911 hjs):decide ((j:Int)>=sl)=false)
  refine bz (upd l1 "_law_far" (.int (j*z))) λl2 e2=> ?_
  have L2:JC n nc o np z len l2:=⟨ah e2 ∅ L1.m,ah e2 ∅ L1.z,ah e2 ∅ L1.c,ah e2 ∅ L1.o,ah e2 ∅ L1.p,ah e2 ∅ L1.l⟩
  have p2:=ah e2 ∅ p1
  haveI it:aJ (.ref nc) (.int x) ⟨l2,H1⟩= .ok (.int (vA F z x)) ⟨l2,H1⟩:=xO hc1 ⟨hx.1,by exact pD 0xf4240a190191000028a0812 hp.2 hx.2⟩ (by rw [abf,abf,qL hx.1 hx.2];rfl)
  haveI k4:∀q,nZ (.int (vA F z x)) (.int 0) q= .ok false q:=λq=>lH (decide_eq_false hcz)
  rw [aas] at hln
  haveI ap:=mW (.int m.2) l2 H1 hpl (by rw [aad];exact id (cu 0xf4240a010f4240a191c0c111 hln))
  haveI ed:done.map V.int++[.int m.2]=(done++[m.2]).map V.int:=by rw [List.map_append];rfl
  rw [ed] at ap
  refine bz (H1.set np (.list ((done++[m.2]).map V.int))) λH2 eH2=> ?_
  rw [eH2] at ap
  have hch2:cA [np] H H2:=hch.trans (eH2▸cA.set (.head _))
  obtain ⟨l3,H3,t3,c3⟩:=BO hn hc ho h1 h2 h3 hz hl hp ms (done:=done++[m.2]) (λm' hm'=>hf m' (.tail _ hm')) (by rw [aae];rw [aaq] at hd;exact hd) (by rw [aac];show done.length+1+ms.length<_;exact id (cu 0xf4240a1190cc10f4240a191c0c111 hln)) hch2 (by rw [<- eH2];exact aaA (bJ hpl)) L2
  haveI tb:fC ⟨l1,H1⟩= .ok .next ⟨l2,H2⟩:=by
   refine ak (q':=⟨l1,H1⟩) ?_ (ak (q':=⟨l2,H1⟩) ?_ (ak (q':=⟨l2,H1⟩) ?_ ?_))
   ·exists p1,d0,L1.z,L1.o,iv,d1,L1.p,ip,k1,L1.l,L1.c,lc,mu,k2
   ·exists p1,d1,L1.l,mo,e2
   ·exists ay e2,L2.z,mz,k0,dz,L2.l,dl,k3,L2.c,p2,d1,dm,it,k4
   ·exists L2.p,nL hpl,p2,d1,ap
  exact kG ⟨l3,H3,(bP (bq (g_set e1) tb) (dK (gt hch2 h1 hn))).trans t3,c3⟩
end
section
variable {H:Hp} {n nc o:Nat} {p len z:Int} {F:Vw} {os M:List (Int×Int)}
theorem Jp (hn:H[n]? = some (.list (M.map aw))) (hc:H[nc]? = some (.list (((bf p).map (vA F z)).map V.int))) (ho:H[o]? = some (.list (os.map aw))) (sM:jt M=M) (sD:cD (M.map (·.2))=M.map (·.2)) (hM:M.length<=50000) (hO:os.length<=40000)
  (hf:∀m∈M,JE p len z F os m) (hd:(os.map (·.1)++M.map (·.2)).Nodup) (hz:1<=z) (hl:1<=len/\len<=60) (hp:1<=p/\p<=40):∃H',gQ [.ref n,.int z,.int len,.ref nc,.ref o] H= .ok (.bool true) H'/\H<+:H':=by
 refine nH λG kG=> ?_
 refine bz (a9 ["_law_moves", "_law_size", "_law_length", "_law_counts", "_law_out"] [.ref n,.int z,.int len,.ref nc,.ref o]) λl0 e0=> ?_
 have a1:l0 "_law_moves" = some (.ref n):=e0▸rfl
 haveI a2:l0 "_law_size" = some (.int z):=e0▸rfl
 haveI a3:l0 "_law_length" = some (.int len):=e0▸rfl
 haveI a4:l0 "_law_counts" = some (.ref nc):=e0▸rfl
 have a5:l0 "_law_out" = some (.ref o):=e0▸rfl
 haveI so:=iP (l:=l0) hn (by exact b9 0xf4240a0100c350a0011 hM)
 rw [sM] at so
 refine bz (H++[O.list (M.map aw)]) λH1 eH1=> ?_
 rw [eH1] at so
 have p1:H<+:H1:=⟨_,eH1⟩
 have hn1:=aA p1 hn
 haveI q1:=Eh (l:=l0) (H:=H1) ⟨hn1,by rw [<- eH1];exact aN _ _,mV M⟩
 have cm:∀ {H:Hp} {c:Cm V},c=fE\/c=fF->H[n]? = some (.list (M.map aw))->c ⟨l0,H⟩= .ok (.ref H.length) ⟨l0,H++[.list ((M.map (·.2)).map V.int)]⟩:=λ{H c} hc hn=>by
  rcases hc with rfl | rfl
  ·unfold fE
   refine tM (n:=n) (ps:=M) ?_ hn (by exact b9 0xf4240a0000c350a0011 hM) λm=> ?_
   ·exists a1,mJ hn
   ·haveI hit:∀q,aJ (aw m) (.int 1) q= .ok (.int m.2) q:=λq=>rfl
    exact cZ (H2:=H) rfl (by exists hit)
  ·unfold fF
   refine tM (n:=n) (ps:=M) ?_ hn (by exact b9 0xf4240a0000c350a0011 hM) λm=> ?_
   ·exists a1,mJ hn
   ·haveI hit:∀q,aJ (aw m) (.int 1) q= .ok (.int m.2) q:=λq=>rfl
    exact cZ (H2:=H) rfl (by exists hit)
 haveI c1:=cm (.inl rfl) hn1
 refine bz (H1++[O.list ((M.map (·.2)).map V.int)]) λH2 eH2=> ?_
 rw [eH2] at c1
 have p2:H1<+:H2:=⟨_,eH2⟩
 haveI c2:=cm (.inr rfl) (aA p2 hn1)
 refine bz (H2++[O.list ((M.map (·.2)).map V.int)]) λH3 eH3=> ?_
 rw [eH3] at c2
 have p3:H2<+:H3:=⟨_,eH3⟩
 haveI s3:=oO (l:=l0) (H:=H3) (n:=H2.length) (ns:=M.map (·.2)) (by rw [<- eH3];exact aN _ _) (by rw [aad];exact id (b9 0xf4240a0100c350a0011 hM))
 rw [sD] at s3
 refine bz (H3++[O.list ((M.map (·.2)).map V.int)]) λH4 eH4=> ?_
 rw [eH4] at s3
 have p4:H3<+:H4:=⟨_,eH4⟩
 haveI q2:=jZ (q:=⟨l0,H4⟩) (i:=H1.length) (j:=H3.length) (xs:=M.map (·.2)) (ys:=M.map (·.2)) (aA (p3.trans p4) (by rw [<- eH2];exact aN _ _)) (by rw [<- eH4];exact aN _ _)
 rw [decide_eq_true rfl] at q2
 haveI t1:jw ⟨l0,H⟩= .ok .next ⟨l0,H4⟩:=by exists a1,so,q1,c1,c2,s3,q2
 have P4:H<+:H4:=p1.trans (p2.trans (p3.trans p4))
 have ho4:=aA P4 ho
 haveI c3:fG ⟨l0,H4⟩= .ok (.ref H4.length) ⟨l0,H4++[.list ((os.map (·.1)).map V.int)]⟩:=by
  unfold fG
  rw [<- Ek]
  refine yU (n:=o) (ps:=os) I8 ?_ ho4 (by exact b9 0xf4240a00009c40a0011 hO) λm _=> ?_
  ·exists a5,mJ ho4
  ·haveI hit:∀q,aJ (aw m) (.int 0) q= .ok (.int m.1) q:=λq=>rfl
   exact cZ (H2:=H4) rfl (by exists hit)
 refine bz (H4++[O.list ((os.map (·.1)).map V.int)]) λH5 eH5=> ?_
 rw [eH5] at c3
 haveI p5:H4<+:H5:=⟨_,eH5⟩
 refine bz (upd l0 "_law_places" (.ref H4.length)) λl1 e1=> ?_
 haveI t2:jx ⟨l0,H4⟩= .ok .next ⟨l1,H5⟩:=by exists c3,e1
 have P5:=P4.trans p5
 have ne:∀ {i:Nat} {ob:O},H[i]? = some ob->H4.length≠i:=λe q=>absurd (bJ e) (Nat.not_lt.mpr (q▸P4.length_le))
 obtain ⟨l2,H6,t3,c6⟩:=BO (np:=H4.length) (aA P5 hn) (aA P5 hc) (aA P5 ho) (ne hn) (ne hc) (ne ho) hz hl hp M (done:=os.map (·.1)) (l:=l1) hf hd (by rw [aad];exact id (cu 0xf4240a01c1009c40a10100c350a0012 hM hO)) (cA.refl _ _) (by rw [<- eH5];exact aN _ _)
  ⟨ah e1 ∅ a1,ah e1 ∅ a2,ah e1 ∅ a4,ah e1 ∅ a5,ay e1,ah e1 ∅ a3⟩
 refine kG ⟨H6,bg (m:=lI) (q:=⟨l2,H6⟩) rfl ?_,BG ((cA.pre (F:=[H4.length]) P5).trans c6) λi hi=>by rw [aaj.mp hi];exact P4.length_le⟩
 rw [e0]
 exact ak t1 (ak t2 (ak (q':=⟨l2,H6⟩) (bq (bq (g_get (ah e1 ∅ a1)) (iI (aA P5 hn))) t3) rfl))
end
section
variable {p len z:Int} {F:Vw}
theorem Fp {x g:Int} (hx:x∈aD p len F z) (hg:g∈bh p F z) (hn:g∉aD p len F z):ce F g<=ce F x:=by
 obtain ⟨a,ha,ea⟩:=aaf.mp (eD.mem_iff.mp hx)
 obtain ⟨b,hb,eb⟩:=aaf.mp (di.mem_iff.mpr hg)
 have hbd:b∈(bU p F z).drop (aV p len F z).toNat:=by
  rw [<- aaS (aV p len F z).toNat (bU p F z)] at hb
  refine (aap.mp hb).resolve_left λq=>hn (eD.mem_iff.mpr (aaf.mpr ⟨b,q,eb⟩))
 haveI hs:(bU p F z).Pairwise wo:=io _
 rw [<- aaS (aV p len F z).toNat (bU p F z)] at hs
 haveI h1:=(aan.mp hs).2.2 a ha b hbd
 have h2:=qg ((List.take_sublist _ _).mem ha)
 have h3:=qg ((List.drop_sublist _ _).mem hbd)
 rw [ea] at h2
 rw [eb] at h3
 rcases mL.mp h1 with q | q
 ·exact id (AV 0x138209131b2a111b0b13 h2 h3 q)
 ·exact id (AV 0x13820a131b2a111b0b13 h2 h3 q.1)
end
section
variable {col:Nat->Nat} {H:Hp} {p len:Int} {xs:List Int} {ri o za:Nat} {r:Rm} {os:List (Int×Int)} {l:bp}
structure JD (p len z:Int) (F:Vw) (os M:List (Int×Int)):Prop where
 f:∀m∈M,JE p len z F os m
 d:(os.map (·.1)++M.map (·.2)).Nodup
 m:jt M=M
 s:cD (M.map (·.2))=M.map (·.2)
theorem OG.fits (h:OG col H p len xs ri o za r os) (pm:os.Perm (bj p len (look r.ss))) {z:Int} (hz:z∈xs):JD p len z (look r.ss) os (eO p len (look r.ss) z):=by
 have gz:=h.gz hz
 obtain ⟨h1,h2,h3,h4,h5⟩:=gz.perm pm h.gap λe he=>(h.in9 he).2.1
 have hm:=gz.mv
 have fr:∀m∈eO p len (look r.ss) z,∃(x:Int) (bs:List Bool) (j:Nat),x∈aD p len (look r.ss) z/\look r.ss x=some (z,bs)/\bs[j]? = some false/\m.2=x*len+j*z/\(0<=(j:Int)*z/\(j:Int)*z+z<=len):=λm hmm=>by
  obtain ⟨x,bs,j,hx,hF,hj,e⟩:=(hm.dst m hmm).ex
  exact ⟨x,bs,j,hx,hF,hj,e,slot gz.l gz.z (gz.sz _ _ hF rfl) (aaa.mp hj).1⟩
 refine ⟨λm hmm=>⟨h2 m hmm,?_⟩,?_,?_,?_⟩
 ·obtain ⟨x,bs,j,hx,hF,hj,e,sl⟩:=fr m hmm
  haveI e1:m.1∈(eO p len (look r.ss) z).map (·.1):=List.mem_map_of_mem hmm
  rw [hm.src] at e1
  obtain ⟨it,hit,_⟩:=aaf.mp e1
  obtain ⟨k1,bs',j',hF',hj',_⟩:=Ew (λg hg=>j8 hg) hit
  haveI gin:it.1∈bh p (look r.ss) z:=by
   rw [rF]
   exact aaz.mpr ⟨bV.mpr (h.inr _ _ hF'),by unfold eW;rw [hF'];exact decide_eq_true rfl⟩
  haveI ct:=Fp hx gin k1
  haveI c1:1<=ce (look r.ss) it.1:=by
   unfold ce bZ;rw [hF']
   haveI:0<bs'.count true:=List.count_pos_iff.mpr (aaE hj')
   show (1:Int)<=((bs'.count true:Nat):Int);exact id (b9 0xf198009111 this)
  refine ⟨x,j,e,h.inr x _ hF,sl,?_,?_⟩
  ·exact aaX (Int.ofNat_lt.mpr (aaa.mp hj).1) (Int.le_of_eq (gz.sz x _ hF rfl))
  ·unfold vA eW
   rw [hF]
   dsimp only
   rw [if_pos (decide_eq_true rfl)];exact id (λx9=>pD 0x9096091a10198110813 ct c1 x9)
 ·refine aan.mpr ⟨?_,?_,λa ha b hb q=> ?_⟩
  ·haveI:=pm.symm.pairwise (h.gap.imp_of_mem λ{a b} ha hb q=>(by haveI:=(h.in9 ha).2.1;exact id (λx9=>tZ 0x909620b111981210c813 q this x9):a.1≠b.1)) λq=>q.symm
   exact aaP.mpr this
  ·exact aaP.mpr (hm.asc.imp λ{a b} q=>by haveI:=gz.z;exact id (λx9=>tZ 0x909620b111981210c813 q this x9))
  ·obtain ⟨e,he,rfl⟩:=aaf.mp ha
   obtain ⟨m,hmm,rfl⟩:=aaf.mp hb
   obtain ⟨x,bs,j,hx,hF,hj,e2,sl⟩:=fr m hmm
   obtain ⟨g,z',bs',j',hF',hj',rfl⟩:=gp (pm.mem_iff.mp he)
   have k1:=(h.page hF' (aaa.mp hj').1)
   have k2:=(h.page hF (aaa.mp hj).1)
   dsimp only at q
   rw [e2] at q
   rw [q,k2.1] at k1
   obtain rfl:x=g:=k1.1
   rw [hF] at hF'
   cases hF'
   have:j=j':=by
    haveI q2:(j':Int)*z=j*z:=by exact aaU (tZ 0x21820c10ca11 q) (tZ 0x12820c10cb11 q)
    exact (Int.ofNat_inj.mp (Int.eq_of_mul_eq_mul_right (by haveI:=gz.z;exact id (λx9=>bY 0x9096090a1019812 this x9)) q2)).symm
   rw [this,hj'] at hj
   cases hj
 ·exact (pA (.refl _) (h3.imp λ{a b} q=>mL.mpr (.inl q))).symm
 ·exact (iT (.refl _) (aaP.mpr (hm.asc.imp λ{a b} q=>by haveI:=gz.z;show a.2<=b.2;exact id (tZ 0x20811981210c812 q this)))).symm
end
structure Ck (r:Rm) (e:Int×Int) (t:Int):Prop where
 c:r.cs[(e.1+t).toNat]? = some (e.1*61+t+1)
noncomputable def rj (e:Int×Int):List Int:=[0,e.1.fmod e.2,e.2-1]
theorem tz {e:Int×Int} (h:1<=e.2):∀t∈rj e,0<=t/\t<e.2:=λt ht=>by
 haveI hm:=bT e.1 e.2 (by exact bY 0x99019811 h)
 rcases aai.mp ht with rfl | ht
 ·exact z0 h
 rcases aai.mp ht with rfl | ht
 ·exact hm
 rw [aaj.mp ht];exact id (⟨bY 0x190e098019811 h,bY 0x190e90⟩)
section
variable {col:Nat->Nat} {H:Hp} {p len:Int} {xs:List Int} {ri o za:Nat} {r:Rm} {os:List (Int×Int)} {l:bp}
structure Wr (p len:Int) (xs:List Int) (ri o za:Nat) (os:List (Int×Int)) (H:Hp) (r:Rm) (col':Nat->Nat) (H':Hp) (r':Rm):Prop where
 g:OG col' H' p len xs ri o za r' os
 lk:look r'.ss=look r.ss
 k:∀e'∈os,∀t',0<=t'/\t'<e'.2->Ck r e' t'->Ck r' e' t'
 ch:cA (r.own ri) H H'
 ow:r'.own ri=r.own ri
theorem OG.put9 (h:OG col H p len xs ri o za r os) (pm:os.Perm (bj p len (look r.ss))) {e:Int×Int} (he:e∈os) {t:Int} (ht:0<=t/\t<e.2):∃H' col' r',A3 (hX [.inst "Room" ri,.int e.1,.int t,.int (e.1*61+t+1)] H= .ok .none H') (Wr p len xs ri o za os H r col' H' r') (Ck r' e t):=by
 refine bz (e.1*61+t+1) λx hx=> ?_
 rw [hx]
 have hm:=pm.mem_iff.mp he
 haveI b:=h.in9 hm
 obtain ⟨g,z,bs,j,hF,hj,rfl⟩:=gp hm
 obtain ⟨s,hs,y1,y2⟩:=xG hF
 rw [<- y2] at hj
 obtain ⟨H1,w1,w2,w3,w4,w5⟩:=GO h.r.rm h.r.ok hs y1 hj ht.1 ht.2 x
 obtain ⟨g1,_⟩:=h.room w2 w3 (Rm.Sm.cs r _) w4 λi hi=> .inl hi
 rw [h.r.rl] at w1 w5 g1
 refine ⟨H1,_,_,w1,⟨g1,rfl,λe' he' t' ht' hc=>⟨?_⟩,w4,rfl⟩,⟨by rw [hx];exact w5⟩⟩
 have b':=h.in9 (pm.mem_iff.mp he')
 by_cases hq:g*len+j*z+t=e'.1+t'
 ·haveI:=h.inj hm (pm.mem_iff.mp he') ht ht' hq
  subst this
  haveI ht2:t=t':=by dsimp only at hq;exact id (aaU (AV 0x328310cc210cca11 hq) (AV 0x238310cc210ccb11 hq))
  subst ht2
  rw [hx];exact w5
 ·show (r.cs.set _ x)[_]? = _
  rw [aaO (λe=>hq (by dsimp only at b ht;exact id (aaU (fu [_,_] [_,_,_,_,_] 0x43c210cc843c1fa10f210cc8110213 e (aaY _) (aah (pD 0x1c09810981009812 ht'.1 b'.1))) (fu [_,_] [_,_,_,_,_] 0x210cc43c81f43c81210cc0fa110313 e (aah (tZ 0x21cc09821c0981009812 ht.1 b.1)) (aaY _)))))];exact hc.c
theorem CF {k:Nat} {cs:List V} {e:Int×Int} (he:e∈os):∀(ts:List Int) {col:Nat->Nat} {H:Hp} {r:Rm} {l:bp},OG col H p len xs ri o za r os->os.Perm (bj p len (look r.ss))->(∀t∈ts,0<=t/\t<e.2)->H[k]? = some (.list cs)->k∉r.own ri->l "_law_room" = some (.inst "Room" ri)->l "_law_pair" = some (.tup [.int e.1,.int e.2]) ->
  ∃(l':bp) (H':Hp) (col':Nat->Nat) (r':Rm),A4 (df (λH=>av (.ref k) H=some cs) (aL "_law_step_here") (xr) (ts.map V.int) ⟨l,H⟩= .ok .next ⟨l',H'⟩) (Wr p len xs ri o za os H r col' H' r') (∀t∈ts,Ck r' e t) (∀y,y ≠ "_law_step_here" -> l' y=l y)
 | [],col,H,r,l,h,_,_,_,_,_,_=>⟨l,H,col,r,rfl,⟨h,rfl,λ_ _ _ _ h=>h,cA.refl _ _,rfl⟩,λt ht=>(nomatch ht),λ_ _=>rfl⟩
 | t::ts,col,H,r,l,h,pm,hts,hk,hkn,hl,hp=>by
  refine nH λG kG=> ?_
  refine bz (upd l "_law_step_here" (.int t)) λl1 e1=> ?_
  have s1:=ay e1
  have r1:=ah e1 ∅ hl
  have p1:=ah e1 ∅ hp
  have b:=h.in9 (pm.mem_iff.mp he)
  haveI hP:=h.r.ok.p
  have hL:=h.r.ok.len
  rw [h.r.rp] at hP
  rw [h.r.rl] at hL
  haveI hb:p*len<=40*60:=Int.mul_le_mul hP.2 hL.2 (by exact bY 0x98019811 hL.1) ∅
  have d0:∀q,aJ (.tup [.int e.1,.int e.2]) (.int 0) q= .ok (.int e.1) q:=λq=>rfl
  haveI mu:∀q,ik (.int e.1) (.int 61) q= .ok (.int (e.1*61)) q:=λq=>wR _ _ _ (IO b.1 (by exact tZ 0xf4240a1900003ca28d281201c81019813 b.2.1 b.2.2 hb))
  obtain ⟨H1,col1,r1',w1,W1,c1⟩:=h.put9 pm he (hts t (.head _))
  haveI pm1:os.Perm (bj p len (look r1'.ss)):=by rw [W1.lk];exact pm
  have hk1:=W1.ch.get hk hkn
  haveI tb:xr ⟨l1,H⟩= .ok .next ⟨l1,H1⟩:=by exists r1,bA h.r.rm (f := "write") ∅,p1,d0,s1,mu,w1
  obtain ⟨l2,H2,col2,r2,t2,W2,c2,n2⟩:=CF he ts W1.g pm1 (λx hx=>hts x (.tail _ hx)) hk1 (by rw [W1.ow];exact hkn) r1 p1
  refine kG ⟨l2,H2,col2,r2,(bP (bq (g_set e1) tb) (dK hk1)).trans t2,⟨W2.g,W2.lk.trans W1.lk,λe' he' t' ht' hc=>W2.k e' he' t' ht' (W1.k e' he' t' ht' hc),W1.ch.trans (W1.ow▸W2.ch),W2.ow.trans W1.ow⟩,λx hx=> ?_,λy hy=>by rw [n2 y hy,<- e1,eP _ _ hy]⟩
  rcases aai.mp hx with rfl | hx
  ·exact W2.k e he x (hts x (.head _)) c1
  ·exact c2 x hx
theorem Ad {e:Int×Int} {l:bp} {H:Hp} (hp:l "_law_pair" = some (.tup [.int e.1,.int e.2])) (h2:1<=e.2):(((ag (am 0) (ag (az bS (ax (af "_law_pair") (am 0)) (ax (af "_law_pair") (am 1))) (ag (az Bm (ax (af "_law_pair") (am 1)) (am 1)) al))).b eU).b (cW)) ⟨l,H⟩ =
  .ok ⟨(rj e).map V.int,λH'=>av (.ref H.length) H'=some ((rj e).map V.int)⟩ ⟨l,H++[.list ((rj e).map V.int)]⟩:=by
 haveI d0:∀q,aJ (.tup [.int e.1,.int e.2]) (.int 0) q= .ok (.int e.1) q:=λq=>rfl
 have d1:∀q,aJ (.tup [.int e.1,.int e.2]) (.int 1) q= .ok (.int e.2) q:=λq=>rfl
 haveI mo:∀q,bS (.int e.1) (.int e.2) q= .ok (.int (e.1.fmod e.2)) q:=λq=>dX (by exact λx9=>bY 0x9096090a1019812 h2 x9) rfl
 haveI nl:eU [.int 0,.int (e.1.fmod e.2),.int (e.2-1)] ⟨l,H⟩= .ok (.ref H.length) ⟨l,H++[.list ((rj e).map V.int)]⟩:=by rw [mX];exact if_pos (show 3<=1000000 by decide)
 exists hp,d0,d1,mo,nl,iI (aN _ _)
theorem CG:∀(es:List (Int×Int)) {col:Nat->Nat} {H:Hp} {r:Rm} {l:bp},OG col H p len xs ri o za r os->os.Perm (bj p len (look r.ss))->(∀e∈es,e∈os)->l "_law_room" = some (.inst "Room" ri) ->
  ∃(l':bp) (H':Hp) (col':Nat->Nat) (r':Rm),A6 (df (λH=>av (.ref o) H=some (os.map aw)) (aL "_law_pair") (xt) (es.map aw) ⟨l,H⟩= .ok .next ⟨l',H'⟩) (OG col' H' p len xs ri o za r' os) (look r'.ss=look r.ss) (∀e∈es,∀t∈rj e,Ck r' e t) (∀e'∈os,∀t',0<=t'/\t'<e'.2->Ck r e' t'->Ck r' e' t') (∀y,y ≠ "_law_pair" -> y ≠ "_law_step_here" -> l' y=l y)
 | [],col,H,r,l,h,_,_,_=>⟨l,H,col,r,rfl,h,rfl,λe he=>(nomatch he),λ_ _ _ _ h=>h,λ_ _ _=>rfl⟩
 | e::es,col,H,r,l,h,pm,hs,hl=>by
  refine nH λG kG=> ?_
  refine bz (upd l "_law_pair" (.tup [.int e.1,.int e.2])) λl1 e1=> ?_
  have p1:=ay e1
  have r1:=ah e1 ∅ hl
  have he:=hs e (.head _)
  have b:=h.in9 (pm.mem_iff.mp he)
  have sl:=Ad (H:=H) p1 b.2.1
  refine bz (H++[O.list ((rj e).map V.int)]) λH1 eH1=> ?_
  rw [eH1] at sl
  obtain ⟨g1,_⟩:=h.pre (⟨_,eH1⟩:H<+:H1)
  obtain ⟨l2,H2,col2,r2,t2,W2,c2,n2⟩:=CF he (rj e) (k:=H.length) (cs:=(rj e).map V.int) g1 pm (tz b.2.1) (by rw [<- eH1];exact aN _ _) (λhm=>Nat.lt_irrefl _ (uB h.r.rm _ hm)) r1 p1
  haveI pm2:os.Perm (bj p len (look r2.ss)):=by rw [W2.lk];exact pm
  obtain ⟨l3,H3,col3,r3,t3,g3,lk3,c3,k3,n3⟩:=CG es W2.g pm2 (λx hx=>hs x (.tail _ hx)) (l:=l2) (by rw [n2 _ ∅];exact r1)
  haveI tb:xt ⟨l1,H⟩= .ok .next ⟨l2,H2⟩:=bq sl t2
  refine kG ⟨l3,H3,col3,r3,(bP (bq (g_set e1) tb) (dK W2.g.o)).trans t3,g3,lk3.trans W2.lk,λx hx=> ?_,λe' he' t' ht' hc=>k3 e' he' t' ht' (W2.k e' he' t' ht' hc),λy hy hy2=>by rw [n3 y hy hy2,n2 y hy2,<- e1,eP _ _ hy]⟩
  rcases aai.mp hx with rfl | hx
  ·exact λt ht=>k3 x he t (tz b.2.1 t ht) (c2 t ht)
  ·exact c3 x hx
theorem BY {M:List (Int×Int)} {k:Nat} {cs:List V} {e:Int×Int} (h:OG col H p len xs ri o za r os) (hm:(pC M e.1,e.2)∈bj p len (look r.ss)) (hb:0<=e.1/\e.1<1000000) (hk:H[k]? = some (.list cs)):∀(ts:List Int) {l:bp},(∀t∈ts,(0<=t/\t<e.2)/\r.cs[(pC M e.1+t).toNat]? = some (e.1*61+t+1)) ->
  l "_law_room" = some (.inst "Room" ri)->l "_law_pair" = some (.tup [.int e.1,.int e.2])->l "_law_place" = some (.int (pC M e.1)) ->
  ∃l',df (λH=>av (.ref k) H=some cs) (aL "_law_step_here") (kh) (ts.map V.int) ⟨l,H⟩= .ok .next ⟨l',H⟩/\ ∀y,y ≠ "_law_step_here" -> y ≠ "_law_found" -> l' y=l y
 | [],l,_,_,_,_=>⟨l,rfl,λ_ _ _=>rfl⟩
 | t::ts,l,hts,hl,hp,hpl=>by
  refine nH λG kG=> ?_
  refine bz (upd l "_law_step_here" (.int t)) λl1 e1=> ?_
  have s1:=ay e1
  have r1:=ah e1 ∅ hl
  have p1:=ah e1 ∅ hp
  have q1:=ah e1 ∅ hpl
  obtain ⟨ht,hc⟩:=hts t (.head _)
  obtain ⟨g,z,bs,j,hF,hj,ee⟩:=gp hm
  obtain ⟨s,hs,y1,y2⟩:=xG hF
  rw [<- y2] at hj
  obtain ⟨ee1,ee2⟩:=Prod.mk.inj ee
  rw [ee2] at ht
  obtain ⟨v,w1,w2⟩:=IB h.r.rm h.r.ok hs y1 hj ht.1 ht.2
  rw [h.r.rl,<- ee1] at w1 w2
  rw [hc] at w2
  obtain rfl:=Option.some.inj w2
  haveI d0:∀q,aJ (.tup [.int e.1,.int e.2]) (.int 0) q= .ok (.int e.1) q:=λq=>rfl
  haveI mu:∀q,ik (.int e.1) (.int 61) q= .ok (.int (e.1*61)) q:=λq=>wR _ _ _ (IO hb.1 hb.2)
  haveI k1:∀q,nZ (.int (e.1*61+t+1)) (.int (e.1*61+t+1)) q= .ok true q:=λq=>lH (decide_eq_true rfl)
  refine bz (upd l1 "_law_found" (.int (e.1*61+t+1))) λl2 e2=> ?_
  haveI tb:kh ⟨l1,H⟩= .ok .next ⟨l2,H⟩:=by
   refine ak (q':=⟨l2,H⟩) ?_ ?_
   ·exists r1,bA h.r.rm (f := "read") ∅,q1,s1,w1,e2
   ·exists ay e2,lA,ah e2 ∅ p1,d0,mu,ah e2 ∅ s1,k1
  obtain ⟨l3,t3,n3⟩:=BY h hm hb hk ts (λx hx=>hts x (.tail _ hx)) (ah e2 ∅ r1) (ah e2 ∅ p1) (ah e2 ∅ q1)
  exact kG ⟨l3,(bP (bq (g_set e1) tb) (dK hk)).trans t3,λy hy hy2=>by rw [n3 y hy hy2,<- e2,eP _ _ hy2,<- e1,eP _ _ hy]⟩
structure JG (p len:Int) (r:Rm) (M:List (Int×Int)) (e:Int×Int):Prop where
 m:(pC M e.1,e.2)∈bj p len (look r.ss)
 b:0<=e.1/\e.1<1000000
 z:1<=e.2
 c:∀t∈rj e,r.cs[(pC M e.1+t).toNat]? = some (e.1*61+t+1)
theorem BZ {M:List (Int×Int)} {n:Nat}:∀(es:List (Int×Int)) {col:Nat->Nat} {H:Hp} {l:bp},OG col H p len xs ri o za r os->H[n]? = some (.list (M.map aw))->(∀e∈es,JG p len r M e)->l "_law_room" = some (.inst "Room" ri)->l "_law_moves" = some (.ref n) ->
  ∃l' H',df (λH=>av (.ref o) H=some (os.map aw)) (aL "_law_pair") (ki) (es.map aw) ⟨l,H⟩= .ok .next ⟨l',H'⟩
 | [],col,H,l,_,_,_,_,_=>⟨l,H,rfl⟩
 | e::es,col,H,l,h,hn,hs,hl,hm=>by
  refine nH λG kG=> ?_
  refine bz (upd l "_law_pair" (.tup [.int e.1,.int e.2])) λl1 e1=> ?_
  have p1:=ay e1
  have r1:=ah e1 ∅ hl
  have m1:=ah e1 ∅ hm
  have K:=hs e (.head _)
  haveI d0:∀q,aJ (.tup [.int e.1,.int e.2]) (.int 0) q= .ok (.int e.1) q:=λq=>rfl
  haveI vb:=Ak hn e.1
  refine bz (upd l1 "_law_place" (.int (pC M e.1))) λl2 e2=> ?_
  have p2:=ah e2 ∅ p1
  haveI sl:=Ad (H:=H) p2 K.z
  refine bz (H++[O.list ((rj e).map V.int)]) λH1 eH1=> ?_
  rw [eH1] at sl
  have pp:H<+:H1:=⟨_,eH1⟩
  obtain ⟨g1,_⟩:=h.pre pp
  obtain ⟨l3,t3,n3⟩:=BY g1 K.m K.b (by rw [<- eH1];exact aN _ _) (rj e) (l:=l2) (λt ht=>⟨tz K.z t ht,K.c t ht⟩) (ah e2 ∅ r1) p2 (ay e2)
  haveI tb:ki ⟨l1,H⟩= .ok .next ⟨l3,H1⟩:=by
   refine ak (q':=⟨l2,H⟩) ?_ (bq sl t3)
   exists p1,d0,m1,vb,e2
  obtain ⟨l4,H4,t4⟩:=BZ es g1 (aA pp hn) (λx hx=>hs x (.tail _ hx)) (l:=l3) (by rw [n3 _ ∅ ∅];exact ah e2 ∅ r1) (by rw [n3 _ ∅ ∅];exact ah e2 ∅ m1)
  exact kG ⟨l4,H4,(bP (bq (g_set e1) tb) (dK g1.o)).trans t4⟩
theorem Iy {M:List (Int×Int)} {n:Nat} (h:OG col H p len xs ri o za r os) (hn:H[n]? = some (.list (M.map aw))) (hs:∀e∈os,JG p len r M e):∃H',pc [.inst "Room" ri,.ref n,.ref o] H= .ok (.bool true) H':=by
 refine bz (a9 ["_law_room", "_law_moves", "_law_out"] [.inst "Room" ri,.ref n,.ref o]) λl0 e0=> ?_
 obtain ⟨l1,H1,t1⟩:=BZ os (l:=l0) h hn hs (e0▸rfl) (e0▸rfl)
 refine ⟨H1,bg (m:=un) (q:=⟨l1,H1⟩) rfl ?_⟩
 rw [e0]
 exact ak (q':=⟨l1,H1⟩) (bq (bq (g_get (e0▸rfl)) (iI h.o)) t1) rfl
end
structure L9 (ri o za:Nat) (p len:Int) (l:bp):Prop where
 s:l "_law_script" = some .scr
 r:l "_law_room" = some (.inst "Room" ri)
 d:l "_law_drawn" = some (.tup [.int p,.int len,.ref za])
 o:l "_law_out" = some (.ref o)
theorem L9.to {ri o za:Nat} {p len:Int} {l l':bp} (h:L9 ri o za p len l) (e:∀y∈["_law_script", "_law_room", "_law_drawn", "_law_out"],l' y=l y):L9 ri o za p len l' :=
 ⟨(e _ ∅).trans h.s,(e _ ∅).trans h.r,(e _ ∅).trans h.d,(e _ ∅).trans h.o⟩
theorem L9.upd {ri o za:Nat} {p len:Int} {l l':bp} (h:L9 ri o za p len l) {x:String} {v:V} (e:Mine.Lake.upd l x v=l') (hx:x∈["_law_size", "_law_due", "_law_moves", "_law_copy", "_law_things", "_law_behind_here"]):L9 ri o za p len l' :=
 h.to λy hy=>by rw [<- e];exact eP _ _ (λq=>(by decide:∀y∈["_law_script", "_law_room", "_law_drawn", "_law_out"],y∉["_law_size", "_law_due", "_law_moves", "_law_copy", "_law_things", "_law_behind_here"]) y hy (q.symm▸hx))
noncomputable def yf (z:Int):V->Option V
 | .tup [a,.int s,b]=>if s=z then some (.tup [a,.int s,b]) else none
 | _=>none
theorem Cu (F:Vw) (z:Int):∀gs:List Int,((gs.filterMap (og F)).filterMap (yf z)).length=(gs.filter (eW F z)).length
 | []=>rfl
 | g::gs=>by
  have ih:=Cu F z gs
  cases hF:F g with
  | none =>
   rw [List.filterMap_cons_none (by unfold og;rw [hF]),aaG (by unfold eW;rw [hF];exact aaF)];exact ih
  | some v =>
   rw [List.filterMap_cons_some (by unfold og;rw [hF])]
   by_cases h:v.1=z
   ·rw [List.filterMap_cons_some (f:=yf z) (a:= .tup [.int g,.int v.1,.int (v.2.count true:Nat)]) (b:= .tup [.int g,.int v.1,.int (v.2.count true:Nat)]) (if_pos h),aaL (by unfold eW;rw [hF];exact decide_eq_true h),aas,aas,ih]
   ·rw [List.filterMap_cons_none (f:=yf z) (a:= .tup [.int g,.int v.1,.int (v.2.count true:Nat)]) (if_neg h),aaG (by unfold eW;rw [hF];show ¬decide (v.1=z)=true;rw [decide_eq_false h];exact aaF)];exact ih
noncomputable def J0 (M:List (Int×Int)):V->Option V
 | .tup [.int a,.int b]=>some (.tup [.int (pC M a),.int b])
 | _=>none
theorem FY (M os:List (Int×Int)):(os.map aw).filterMap (J0 M)=(os.map λe=>(pC M e.1,e.2)).map aw:=by
 rw [List.filterMap_map,aaV,<- List.filterMap_eq_map];rfl
section
variable {col:Nat->Nat} {H:Hp} {p len:Int} {xs:List Int} {ri o za:Nat} {r:Rm} {os:List (Int×Int)} {l:bp}
theorem Gc (h:OG col H p len xs ri o za r os) (pm:os.Perm (bj p len (look r.ss))) (hl:L9 ri o za p len l):∃l' H' z,A5 (aB (tB) (qx) ⟨l,H⟩= .ok .next ⟨l',H'⟩) (H<+:H') (z∈xs) (L9 ri o za p len l') (l' "_law_size" = some (.int z)):=by
 refine nH λG kG=> ?_
 obtain ⟨c,hc⟩:=rE H 4 ∅ ∅
 have d2:∀q,aJ (.tup [.int p,.int len,.ref za]) (.int 2) q= .ok (.ref za) q:=λq=>rfl
 have hx0:0<xs.length:=List.length_pos_iff.mpr (h.r.rx▸h.r.ok.ne)
 have hL:=h.r.ok.len
 rw [h.r.rl] at hL
 have hsz:=h.sz
 have hxl:=ui (a:=0) (b:=len) hsz.rise (λx hx=>⟨hsz.low x hx,hsz.top x hx⟩) (by exact bY 0x98019811 hL.1)
 haveI hlv:dY [.ref za] ⟨l,H⟩= .ok (.int xs.length) ⟨l,H⟩:=by
  haveI:=cE (l:=l) h.z (by rw [aad];exact id (ge 0xf4240a01090e0f8100003ca0812 hL.2 hxl))
  rw [aad] at this;exact this
 have hi:=bT c xs.length (by exact b9 0xf099009111 hx0)
 refine bz (c.fmod xs.length) λi ei=> ?_
 rw [ei] at hi
 haveI mi:∀q,bS (.int c) (.int xs.length) q= .ok (.int i) q:=λq=>dX (by exact λx9=>b9 0x9096090fa1009112 hx0 x9) ei
 obtain ⟨z0,hz0⟩:∃z,xs[i.toNat]? = some z:=⟨_,aal (by exact jF 0x1101fa10f0912 hi.2 (aah hi.1))⟩
 haveI itm:aJ (.ref za) (.int i) ⟨l,H⟩= .ok (.int z0) ⟨l,H⟩:=xN h.z hi.1 (by exact Dg 0xf4240a190f191090e0f8100003ca0813 hL.2 hxl hi.2) (by rw [abf,hz0];rfl)
 refine bz (upd l "_law_size" (.int z0)) λl1 e1=> ?_
 have t6:tB ⟨l,H⟩= .ok .next ⟨l1,H⟩:=by exists hl.d,d2,hl.s,hc,hlv,mi,itm,e1
 have L1:=hl.upd e1 ∅
 have hzx:z0∈xs:=aaE hz0
 have nl:eU [] ⟨l1,H⟩= .ok (.ref H.length) ⟨l1,H++[.list []]⟩:=g_nl0 rfl
 have q0:=qR (l:=l1) h.o (mV os)
 refine bz (H++[O.list []]) λH1 eH1=> ?_
 rw [eH1] at nl q0
 have pp:H<+:H1:=⟨_,eH1⟩
 obtain ⟨c',hc'⟩:=rE H1 4 ∅ ∅
 have m4:∀q,bS (.int c') (.int 4) q= .ok (.int (c'.fmod 4)) q:=λq=>dX ∅ rfl
 haveI dv4:∀q,cT (.int c') (.int 4) q= .ok (.int (c'.fdiv 4)) q:=λq=>fN ∅ rfl
 cases hos:os with
 | nil =>
  rw [hos] at q0
  haveI t7:qx ⟨l1,H⟩= .ok .next ⟨l1,H1⟩:=by exists L1.o,nl,q0
  exact kG ⟨l1,H1,z0,ak t6 t7,pp,hzx,L1,ay e1⟩
 | cons a as =>
  have q0:nZ (.ref o) (.ref H.length) ⟨l1,H1⟩= .ok false ⟨l1,H1⟩:=by rw [q0,hos];rfl
  by_cases h4:c'.fmod 4>0
  ·haveI k4:decide (c'.fmod 4>0)=true:=decide_eq_true h4
   have hfw:=h.few pm
   have ho1:=aA pp h.o
   haveI hlo:dY [.ref o] ⟨l1,H1⟩= .ok (.int os.length) ⟨l1,H1⟩:=by
    haveI:=cE (l:=l1) ho1 (by rw [aad];exact id (b9 0xf4240a01009c40a0011 hfw))
    rw [aad] at this;exact this
   have h0:0<os.length:=by rw [hos];exact Nat.succ_pos _
   have hj:=bT (c'.fdiv 4) os.length (by exact b9 0xf099009111 h0)
   refine bz ((c'.fdiv 4).fmod os.length) λj ej=> ?_
   rw [ej] at hj
   haveI mj:∀q,bS (.int (c'.fdiv 4)) (.int os.length) q= .ok (.int j) q:=λq=>dX (by exact λx9=>b9 0x9096090fa1009112 h0 x9) ej
   obtain ⟨e,he⟩:∃e,os[j.toNat]? = some e:=⟨_,aal (by exact jF 0x1101fa10f0912 hj.2 (aah hj.1))⟩
   haveI ite:aJ (.ref o) (.int j) ⟨l1,H1⟩= .ok (.tup [.int e.1,.int e.2]) ⟨l1,H1⟩:=xN ho1 hj.1 (by exact ge 0xf4240a090f091009c40a0012 hfw hj.2) (by rw [abf,he];rfl)
   haveI de:∀q,aJ (.tup [.int e.1,.int e.2]) (.int 1) q= .ok (.int e.2) q:=λq=>rfl
   refine bz (upd l1 "_law_size" (.int e.2)) λl2 e2=> ?_
   haveI t7:qx ⟨l1,H⟩= .ok .next ⟨l2,H1⟩:=by
    refine bq (a:=true) (q':=⟨l1,H1⟩) ?_ (it_t rfl ?_)
    ·exists L1.o,nl,q0,L1.s,hc',m4,k4
    ·exists L1.o,L1.s,hc',dv4,hlo,mj,ite,de,e2
   exact kG ⟨l2,H1,e.2,ak t6 t7,pp,h.szin (pm.mem_iff.mp (aaE he)),L1.upd e2 ∅,ay e2⟩
  ·haveI k4:decide (c'.fmod 4>0)=false:=decide_eq_false h4
   haveI t7:qx ⟨l1,H⟩= .ok .next ⟨l1,H1⟩:=by
    refine bq (a:=false) (q':=⟨l1,H1⟩) ?_ (it_f rfl rfl)
    exists L1.o,nl,q0,L1.s,hc',m4,k4
   exact kG ⟨l1,H1,z0,ak t6 t7,pp,hzx,L1,ay e1⟩
theorem HV (h:OG col H p len xs ri o za r os) (hl:L9 ri o za p len l) {z:Int} (lz:l "_law_size" = some (.int z)) {M:List (Int×Int)} {n9 n8:Nat} (hn:H[n9]? = some (.list (M.map aw))) (lm:l "_law_moves" = some (.ref n9)) {nd:Int} {mc:Nat} (ldu:l "_law_due" = some (.tup [.int nd,.int mc,.ref n8]))
  (hnd:(((cn p (look r.ss)).filter (eW (look r.ss) z)).length:Int)=nd) (hp1:(os.map λe=>(pC M e.1,e.2)).Perm (bj p len (look r.ss))) (hfw:os.length<=40000) (hK:∀e∈os,JG p len r M e) :
  ∃q',aB (qt) (aB (qu) (aB (qv) (qw))) ⟨l,H⟩= .ok (.ret (.bool true)) q':=by
 refine nH λG kG=> ?_
 haveI hP:=h.r.ok.p
 rw [h.r.rp] at hP
 refine bz (look r.ss) λF eF=> ?_
 rw [eF] at hnd hp1
 haveI i0:∀q,aJ (.tup [.int nd,.int mc,.ref n8]) (.int 0) q= .ok (.int nd) q:=λq=>rfl
 haveI vs:=Dy h.r.rm h.r.ok
 rw [h.r.rp,eF] at vs
 obtain ⟨n14,H14,f14,p14,_,x14⟩:=vs
 haveI rows:∀v∈(cn p F).filterMap (og F),bM (aL "_law_row") (bi .Eq (ax (af "_law_row") (am 1)) (af "_law_size")) (af "_law_row") (gn ["_law_size"] l) v H14= .ok (yf z v) H14:=λv hv=>by
  obtain ⟨g,_,hg⟩:=List.mem_filterMap.mp hv
  unfold og at hg
  split at hg
  ·rename_i w _
   cases hg
   refine bz (upd (gn ["_law_size"] l) "_law_row" (.tup [.int g,.int w.1,.int (w.2.count true)])) λlw ew=> ?_
   have b1:=ay ew
   haveI b2:lw "_law_size" = some (.int z):=by rw [<- ew];exact gh ∅ ∅ lz
   haveI ix:∀q,aJ (.tup [.int g,.int w.1,.int (w.2.count true)]) (.int 1) q= .ok (.int w.1) q:=λq=>rfl
   have tst:∀ {b:Bool},decide (w.1=z)=b->bi .Eq (ax (af "_law_row") (am 1)) (af "_law_size") ⟨lw,H14⟩= .ok b ⟨lw,H14⟩:=λ{b} hb=>by
    haveI kq:∀q,nZ (.int w.1) (.int z) q= .ok b q:=λq=>lH hb
    exists b1,ix,b2,kq
   by_cases hq:w.1=z
   ·rw [show yf z (.tup [.int g,.int w.1,.int (w.2.count true)])=some (.tup [.int g,.int w.1,.int (w.2.count true)]) from if_pos hq]
    exact cZ (H2:=H14) (by rw [ew];exact tst (decide_eq_true hq)) (by rw [ew];exact g_get b1)
   ·rw [show yf z (.tup [.int g,.int w.1,.int (w.2.count true)])=none from if_neg hq]
    exact qr (by rw [ew];exact tst (decide_eq_false hq))
  ·cases hg
 have rl40:((cn p F).filterMap (og F)).length<=40:=aao (List.length_filterMap_le _ _) (jV p hP.2 _)
 haveI c14:xy ⟨l,H⟩= .ok (.ref H14.length) ⟨l,H14++[.list (((cn p F).filterMap (og F)).filterMap (yf z))]⟩:=by
  unfold xy
  refine fo (H2:=H14) (it:=⟨(cn p F).filterMap (og F),λH=>av (.ref n14) H=some ((cn p F).filterMap (og F))⟩) (H1:=H14) ?_ (aao rl40 ∅) (fn (dK x14) (yf z) _ rows)
  exists hl.r,bA h.r.rm (f := "shelves") ∅,f14,iI x14
 refine bz (((cn p F).filterMap (og F)).filterMap (yf z)) λrw' erw=> ?_
 haveI hrl:(rw'.length:Int)=nd:=by
  rw [<- erw,Cu]
  exact hnd
 rw [erw] at c14
 refine bz (H14++[O.list rw']) λH15 eH15=> ?_
 rw [eH15] at c14
 have p15:H14<+:H15:=⟨_,eH15⟩
 haveI lr:dY [.ref H14.length] ⟨l,H15⟩= .ok (.int nd) ⟨l,H15⟩:=by
  haveI:=cE (l:=l) (H:=H15) (i:=H14.length) (xs:=rw') (by rw [<- eH15];exact aN _ _) (by rw [<- erw];exact Nat.lt_of_le_of_lt (List.length_filterMap_le _ _) (by exact b9 0xf4240a01000028a0011 rl40))
  rw [hrl] at this;exact this
 haveI kn:∀q,nZ (.int nd) (.int nd) q= .ok true q:=λq=>lH (decide_eq_true rfl)
 haveI t13:qt ⟨l,H⟩= .ok .next ⟨l,H15⟩:=by exists c14,lr,ldu,i0,kn
 obtain ⟨g15,_⟩:=h.pre (p14.trans p15)
 haveI vt:=FD g15.r.rm g15.r.ok
 rw [g15.r.rp,g15.r.rl,eF] at vt
 obtain ⟨n16,H16,f16,p16,_,x16⟩:=vt
 refine bz (upd l "_law_things" (.ref n16)) λle ee=> ?_
 haveI t14:qu ⟨l,H15⟩= .ok .next ⟨le,H16⟩:=by exists hl.r,bA g15.r.rm (f := "things") ∅,f16,ee
 have Le:=hl.upd ee ∅
 have me:=ah ee ∅ lm
 obtain ⟨g16,_⟩:=g15.pre p16
 have w9:=aA ((p14.trans p15).trans p16) hn
 haveI c16:xz ⟨le,H16⟩= .ok (.ref H16.length) ⟨le,H16++[.list ((os.map λe=>(pC M e.1,e.2)).map aw)]⟩:=by
  unfold xz
  rw [<- FY]
  refine yU (n:=o) (ps:=os) (J0 M) ?_ g16.o (by exact b9 0xf4240a00009c40a0011 hfw) λe _=> ?_
  ·exists Le.o,mJ g16.o
  ·refine bz (upd (gn ["_law_moves"] le) "_law_pair" (aw e)) λlw ew=> ?_
   have b1:lw "_law_pair" = some (.tup [.int e.1,.int e.2]):=ay ew
   haveI b2:lw "_law_moves" = some (.ref n9):=by rw [<- ew];exact gh ∅ ∅ me
   haveI j0:∀q,aJ (.tup [.int e.1,.int e.2]) (.int 0) q= .ok (.int e.1) q:=λq=>rfl
   haveI j1:∀q,aJ (.tup [.int e.1,.int e.2]) (.int 1) q= .ok (.int e.2) q:=λq=>rfl
   exact cZ (H2:=H16) rfl (by rw [ew];exists b1,j0,b2,Ak w9 e.1,j1)
 refine bz (H16++[O.list ((os.map λe=>(pC M e.1,e.2)).map aw)]) λH17 eH17=> ?_
 rw [eH17] at c16
 haveI so:=iP (l:=le) (H:=H17) (n:=H16.length) (ps:=os.map λe=>(pC M e.1,e.2)) (by rw [<- eH17];exact aN _ _) (by rw [aad];exact id (b9 0xf4240a01009c40a0011 hfw))
 haveI gap':IJ (bj p len F):=by haveI:=h.gap;rw [eF] at this;exact this
 haveI in':∀e∈bj p len F,0<=e.1/\1<=e.2/\e.1+e.2<=p*len:=λe he=>h.in9 (by rw [eF];exact he)
 haveI st:jt (os.map λe=>(pC M e.1,e.2))=bj p len F:=(pA hp1.symm (gap'.imp_of_mem λ{a b} ha hb q=>mL.mpr (.inl (by haveI:=(in' a ha).2.1;exact id (tZ 0x20911981210c812 q this))))).symm
 rw [st] at so
 refine bz (H17++[O.list ((bj p len F).map aw)]) λH18 eH18=> ?_
 rw [eH18] at so
 have p18:H16<+:H18:=List.IsPrefix.trans ⟨_,eH17⟩ ⟨_,eH18⟩
 refine bz (upd le "_law_behind_here" (.ref H17.length)) λlf ef=> ?_
 haveI t15:qv ⟨le,H16⟩= .ok .next ⟨lf,H18⟩:=by exists c16,so,ef
 have Lf:=Le.upd ef ∅
 haveI mf:=ah ef ∅ me
 have tf:=ah ef ∅ (ay ee)
 obtain ⟨g18,_⟩:=g16.pre p18
 have u16:=aA p18 x16
 haveI q18:=Eh (l:=lf) (H:=H18) ⟨u16,by rw [<- eH18];exact aN _ _,mV _⟩
 obtain ⟨H19,f19⟩:=Iy g18 (M:=M) (n:=n9) (aA p18 w9) hK
 haveI t16:qw ⟨lf,H18⟩= .ok (.ret (.bool true)) ⟨lf,H19⟩:=by
  exists tf,yF u16,ay ef,q18,Lf.r,mf,Lf.o,f19
 exact kG ⟨⟨lf,H19⟩,ak t13 (ak t14 (ak t15 t16))⟩
theorem EB (h:OG col H p len xs ri o za r os) (pm:os.Perm (bj p len (look r.ss))) (hl:L9 ri o za p len l) {z:Int} (hz:z∈xs) (lz:l "_law_size" = some (.int z)) (hk:∀e∈os,∀t∈rj e,Ck r e t) :
  ∃q',aB (yv) (aB (yw) (aB (vf) (aB (vg) (aB (vh) (aB (qt) (aB (qu) (aB (qv) (qw)))))))) ⟨l,H⟩= .ok (.ret (.bool true)) q':=by
 refine nH λG kG=> ?_
 have gz:=h.gz hz
 have hP:=h.r.ok.p
 have hL:=h.r.ok.len
 rw [h.r.rp] at hP
 rw [h.r.rl] at hL
 have hfw:=h.few pm
 have FT:=h.fits pm hz
 have hgap:=h.gap
 have hin:=λe he=>h.in9 (e:=e) he
 obtain ⟨hp1,hp2,hp3,hp4,hp5⟩:=gz.perm pm hgap λe he=>(hin e he).2.1
 have hag:=gz.again
 haveI hzs:=gz.zs
 haveI hnum:=Aa (p:=p) gz.sz gz.per
 haveI hned:=gk (p:=p) (F:=look r.ss) gz.per
 haveI hcell:=λ(w':IJ (bj p len (eK p len (look r.ss) z))) b' (e:Int×Int) he (t:Int) ht=>gz.cells pm (cs:=r.cs) (by rw [h.r.ok.cs,h.r.rp,h.r.rl]) hin b' hgap w' (e:=e) he (t:=t) ht
 obtain ⟨n8,H8,f8,p8,le8,x8⟩:=FC h pm hz
 refine bz ((bf p).map (vA (look r.ss) z)) λC eC=> ?_
 obtain ⟨g8,_⟩:=h.pre p8
 haveI v:=vw g8.r.rm g8.r.ok (z:=z) (by rw [g8.r.rx];exact hz)
 rw [g8.r.rl,g8.r.rp] at v
 obtain ⟨n9,r9,H9,f9,le9,x9,R9,O9,S9,k9,ch9,ow9,few9,cs9⟩:=v
 refine bz (eO p len (look r.ss) z) λM eM=> ?_
 refine bz (eK p len (look r.ss) z) λF' eF=> ?_
 refine bz (aV p len (look r.ss) z) λnd end'=> ?_
 rw [eM] at f8 x9 few9 cs9 FT hp1 hp2 hp5 hcell
 rw [eF] at k9 hp1 hp4 hag hzs hcell
 rw [end'] at f8 hnum hned
 obtain ⟨g9,_⟩:=g8.room R9 O9 S9 ch9 λi hi=> .inl (ow9 i hi)
 have olt:=uB h.r.rm
 haveI on8:n8∉r.own ri:=λhm=>by haveI:=olt _ hm;exact id (cu 0x9096011110012 le8 this)
 haveI x8':=ch9.get x8 on8
 have l8:=p8.length_le
 haveI l9:=ch9.len
 -- the locals
 refine bz (upd l "_law_due" (.tup [.int nd,.int (M.length:Nat),.ref n8])) λlb eb=> ?_
 haveI t8:yv ⟨l,H⟩= .ok .next ⟨lb,H8⟩:=by exists lz,hl.d,hl.o,f8,eb
 have Lb:=hl.upd eb ∅
 have zb:=ah eb ∅ lz
 refine bz (upd lb "_law_moves" (.ref n9)) λlc ec=> ?_
 haveI t9:yw ⟨lb,H8⟩= .ok .next ⟨lc,H9⟩:=by exists Lb.r,bA g8.r.rm (f := "gather") ∅,zb,f9,ec
 haveI Lc:=Lb.upd ec ∅
 haveI zc:=ah ec ∅ zb
 haveI dc:=ah ec ∅ (ay eb)
 haveI li:=uH (o:= .ref n9) lc H9 (dK x9) (by rw [aad];exact id (b9 0xf4240a0000c350a0011 few9))
 refine bz (H9++[O.list (M.map aw)]) λH10 eH10=> ?_
 rw [eH10] at li
 have p10:H9<+:H10:=⟨_,eH10⟩
 refine bz (upd lc "_law_copy" (.ref H9.length)) λld ed=> ?_
 haveI t10:vf ⟨lc,H9⟩= .ok .next ⟨ld,H10⟩:=by exists ay ec,li,ed
 have Ld:=Lc.upd ed ∅
 have zd:=ah ed ∅ zc
 have dd:=ah ed ∅ dc
 have md:=ah ed ∅ (ay ec)
 obtain ⟨g10,_⟩:=g9.pre p10
 haveI v2:=vw g10.r.rm g10.r.ok (z:=z) (by rw [g10.r.rx];exact hz)
 rw [g10.r.rl,g10.r.rp,k9,hag.1,hag.2] at v2
 obtain ⟨n11,r11,H11,f11,le11,x11,R11,O11,S11,k11,ch11,ow11,_,cs11⟩:=v2
 obtain ⟨g11,_⟩:=g10.room R11 O11 S11 ch11 λi hi=> .inl (ow11 i hi)
 have hno:∀ {i:Nat},H.length<=i->i∉r9.own ri:=λhi hm=>by haveI:=olt _ (ow9 _ hm);exact id (cu 0x9096011110012 hi this)
 haveI y8:=ch11.get (aA p10 x8') (hno le8)
 have y9:=ch11.get (aA p10 x9) (hno (by exact lh 0x120020110012 le9 l8))
 haveI y10:=ch11.get (show H10[H9.length]? = some (.list (M.map aw)) by rw [<- eH10];exact aN _ _) (hno (by exact lh 0x200210110012 l8 l9))
 refine bz (H11++[O.list []]) λH12 eH12=> ?_
 have p12:H11<+:H12:=⟨_,eH12⟩
 haveI q11:=qR (l:=ld) x11 (λv hv=>nomatch hv)
 haveI nl:eU [] ⟨ld,H11⟩= .ok (.ref H11.length) ⟨ld,H12⟩:=by rw [mX,if_pos ∅,eH12]
 rw [eH12] at q11
 haveI q12:=Eh (l:=ld) (H:=H12) ⟨aA p12 y9,aA p12 y10,mV M⟩
 haveI t11:vg ⟨ld,H10⟩= .ok .next ⟨ld,H12⟩:=by
  exists Ld.r,bA g10.r.rm (f := "gather") ∅,zd,f11,nl,q11,md,ay ed,q12
 obtain ⟨g12,_⟩:=g11.pre p12
 have z9:=aA p12 y9
 haveI z8:=aA p12 y8
 haveI vp:=yF z9
 haveI lm:dY [.ref n9] ⟨ld,H12⟩= .ok (.int (M.length:Nat)) ⟨ld,H12⟩:=by
  haveI:=cE (l:=ld) z9 (by rw [aad];exact id (b9 0xf4240a0100c350a0011 few9))
  rw [aad] at this;exact this
 haveI i1:∀q,aJ (.tup [.int nd,.int (M.length:Nat),.ref n8]) (.int 1) q= .ok (.int (M.length:Nat)) q:=λq=>rfl
 haveI i2:∀q,aJ (.tup [.int nd,.int (M.length:Nat),.ref n8]) (.int 2) q= .ok (.ref n8) q:=λq=>rfl
 haveI dl:∀q,aJ (.tup [.int p,.int len,.ref za]) (.int 1) q= .ok (.int len) q:=λq=>rfl
 haveI km:∀q,nZ (.int (M.length:Nat)) (.int (M.length:Nat)) q= .ok true q:=λq=>lH (decide_eq_true rfl)
 obtain ⟨H13,f13,p13⟩:=Jp z9 z8 g12.o FT.m FT.s few9 hfw FT.f FT.d gz.z hL hP
 haveI t12:vh ⟨ld,H12⟩= .ok .next ⟨ld,H13⟩:=by
  exists md,vp,lm,dd,i1,km,zd,Ld.d,dl,i2,Ld.o,f13
 obtain ⟨g13,_⟩:=g12.pre p13
 haveI hb:p*len<=40*60:=Int.mul_le_mul hP.2 hL.2 (aa8 ∅ hL.1) ∅
 haveI gap':IJ (bj p len F'):=by haveI:=g11.gap;rw [k11] at this;exact this
 haveI in':∀e∈bj p len F',0<=e.1/\1<=e.2/\e.1+e.2<=p*len:=λe he=>g11.in9 (by rw [k11];exact he)
 obtain ⟨q',hq⟩:=HV g13 Ld zd (aA p13 z9) md dd (by rw [k11];exact (congrArg Int.ofNat ((congrArg List.length hzs).trans hnum)).trans (aah hned)) (by rw [k11];exact hp1) hfw λe he=>by
  have be:=hin e (pm.mem_iff.mp he)
  refine ⟨by rw [k11];exact hp1.mem_iff.mp (List.mem_map_of_mem (f:=λe:Int×Int=>(pC M e.1,e.2)) he),⟨be.1,aaX (aaX (Int.lt_add_of_pos_right _ (aaX ∅ be.2.1)) (aa8 be.2.2 hb)) ∅⟩,be.2.1,λt ht=> ?_⟩
  rw [cs11.trans cs9,hcell gap' in' e he t (tz be.2.1 t ht)]
  exact (hk e he t ht).c
 exact kG ⟨q',ak t8 (ak t9 (ak t10 (ak t11 (ak t12 hq))))⟩
end
noncomputable def zB (n:Nat) (i:Nat):Nat:=if i<n then 0 else ([1,1,0,1][i-n]?).getD 0
theorem pO (n j:Nat):zB n (n+j)=([1,1,0,1][j]?).getD 0:=by
 unfold zB;rw [if_neg (Nat.not_lt.mpr (aaQ _ _)),aaC]
theorem EA {n i:Nat} (h:i<n):zB n i=0:=if_pos h
theorem zA (hsn:sn.length<=1000):∃H',G9 [.scr] []= .ok (.bool true) H':=by
 refine nH λG kG=> ?_
 refine bz (a9 ["_law_script"] [.scr]) λl0 e0=> ?_
 have a0:l0 "_law_script" = some .scr:=e0▸rfl
 obtain ⟨p,len,xs,za,H1,t,z,hp,hl,hs,hne,h8⟩:=Dx
 refine bz (upd l0 "_law_drawn" (.tup [.int p,.int len,.ref za])) λl1 e1=> ?_
 haveI t1:Cv ⟨l0,[]⟩= .ok .next ⟨l1,H1⟩:=by exists a0,t,e1
 haveI d0:∀q,aJ (.tup [.int p,.int len,.ref za]) (.int 0) q= .ok (.int p) q:=λq=>rfl
 have d1:∀q,aJ (.tup [.int p,.int len,.ref za]) (.int 1) q= .ok (.int len) q:=λq=>rfl
 have d2:∀q,aJ (.tup [.int p,.int len,.ref za]) (.int 2) q= .ok (.ref za) q:=λq=>rfl
 haveI li:=uH (o:= .ref za) l1 H1 (dK z) (by rw [aad];exact id (b9 0xf4240a00890011 h8))
 refine bz (H1++[O.list (xs.map V.int)]) λH2 eH2=> ?_
 rw [eH2] at li
 haveI mk:=Dd (l:=l1) hp hl hs hne h8 (by rw [<- eH2];exact aN _ _:H2[H1.length]? = some (.list (xs.map V.int)))
 refine bz (H2.length) λpl epl=> ?_
 rw [epl] at mk
 refine bz (H2++[O.flds (iN p len (pl+1)),O.list (xs.map V.int)]) λH eH=> ?_
 rw [eH] at mk
 have z':H[za]? = some (.list (xs.map V.int)):=by rw [<- eH,<- eH2];exact aA ⟨_,rfl⟩ (aA ⟨_,rfl⟩ z)
 have x4:H[pl]? = some (.flds (iN p len (pl+1))):=by rw [<- eH,<- epl];exact xH H2 _ 0
 have x5:H[pl+1]? = some (.list (xs.map V.int)):=by rw [<- eH,<- epl];exact xH H2 _ 1
 refine bz (H.length) λn en=> ?_
 haveI r1:=IC (l:=l1) x4 hp hl
 rw [en] at r1
 refine bz (upd l1 "_law_room" (.inst "Room" n)) λl2 e2=> ?_
 have a1:=ay e1
 haveI t2:Cw ⟨l1,H1⟩= .ok .next ⟨l2,H++jq n pl p len⟩:=by exists a1,d0,d1,d2,li,mk,r1,e2
 refine bz ((sn.drop 5).map V.int) λcs ecs=> ?_
 haveI n5:(H++jq n pl p len).length=n+4:=HW en rfl
 haveI dv:yZ .scr (.int 5) ⟨l2,H++jq n pl p len⟩= .ok (.ref (n+4)) ⟨l2,H++(jq n pl p len++[.list cs])⟩:=by
  haveI h1:yZ .scr (.int 5) ⟨l2,H++jq n pl p len⟩= .ok (.ref (H++jq n pl p len).length) ⟨l2,H++jq n pl p len++[.list ((sn.map V.int).drop 5)]⟩:=by
   haveI:(sn.map V.int).length<=1000000:=by rw [aad];exact id (b9 0xf4240a000003e8a0011 hsn)
   show (if (0:Int)<=5/\(sn.map V.int).length<=1000000 then _ else _)=_
   rw [if_pos ⟨by decide,this⟩];rfl
  rw [h1,n5,<- List.map_drop,ecs,aae]
 have Gt:∀j,(H++(jq n pl p len++[.list cs]))[n+j]? = (jq n pl p len++[.list cs])[j]? := λj=>by rw [<- en];exact xH _ _ _
 have P:∀ {i o},H[i]? = some o->(H++(jq n pl p len++[.list cs]))[i]? = some o/\zB n i=0:=λh=>⟨aA ⟨_,rfl⟩ h,EA (en▸bJ h)⟩
 haveI lm:pl+1<n:=en▸bJ x5
 haveI g:RG 1 (zB n) (H++(jq n pl p len++[.list cs])) p len xs n (Kd n pl (pl+1) p len xs):=by
  refine ⟨⟨Gt 0,(P x4).1,(P x5).1,Gt 1,λs h=>(nomatch h),Gt 3⟩,Ii hp hl hs hne (by exact λx9=>cu 0x9096391c190c311190c112 lm x9),rfl,rfl,rfl,λi hi=> ?_,(P x4).2,(P x5).2⟩
  rcases aai.mp hi with e | hi
  ·rw [e];exact pO n 0
  rcases aai.mp hi with e | hi
  ·rw [e];exact pO n 1
  rcases aai.mp hi with e | hi
  ·rw [e];exact pO n 3
  cases hi
 obtain ⟨o,H3,t3',E⟩:=Dv (ys:=sn.drop 5) g (P z').1 (P z').2 (by rw [ecs];exact Gt 4) (pO n 4) rfl
 cases E with
 | mk col3 r3 os3 g3 pm3 _ =>
 refine bz (upd l2 "_law_out" (.ref o)) λl3 e3=> ?_
 have a2:=ah e2 ∅ a1
 have a0':=ah e2 ∅ (ah e1 ∅ a0)
 haveI t3:Cy ⟨l2,H++jq n pl p len⟩= .ok .next ⟨l3,H3⟩:=by exists a0',dv,ay e2,a2,d1,d2,t3',e3
 haveI t4:Cz ⟨l3,H3⟩= .ok .next ⟨l3,H3⟩:=by exists ay e3
 have r3':=ah e3 ∅ (ay e2)
 obtain ⟨l5,H5,col5,r5,t5',g5,lk5,c5,_,n5'⟩:=CG os3 (l:=l3) g3 pm3 (λe he=>he) r3'
 haveI t5:CA ⟨l3,H3⟩= .ok .next ⟨l5,H5⟩:=bq (bq (g_get (ay e3)) (iI g3.o)) t5'
 haveI L5:L9 n o za p len l5:=L9.to ⟨ah e3 ∅ a0',r3',ah e3 ∅ a2,ay e3⟩ λy hy=>n5' y (λq=>by subst q;revert hy;decide) λq=>by subst q;revert hy;decide
 have pm5:os3.Perm (bj p len (look r5.ss)):=by rw [lk5];exact pm3
 obtain ⟨l7,H7,z7,t67,p7,hz7,L7,lz7⟩:=Gc g5 pm5 L5
 obtain ⟨g7,_⟩:=g5.pre p7
 obtain ⟨q',hq⟩:=EB g7 pm5 L7 hz7 lz7 c5
 refine kG ⟨q'.H,bg (m:=Hd) (q:=q') rfl ?_⟩
 rw [e0]
 refine ak t1 (ak t2 (ak t3 (ak t4 (ak t5 ?_))))
 rw [Cj] at t67
 cases h6:tB ⟨l5,H5⟩ with
 | ok f q6 =>
  cases f with
  | next=>rw [h6] at t67;exact ak h6 (ak t67 hq)
  | ret v=>rw [h6] at t67;cases t67
 | exc c q6=>rw [h6] at t67;cases t67
 | stuck=>rw [h6] at t67;cases t67
theorem JI:∀t:Tp,bL t.G->xn 449 t.G:=iG λC s R a b c d=>Ik C (Jo C) ∅ a b c (zA (aao C.short ∅)) d
end
end Mine.Lake
open PySem PySem.W PyProof.Rows
namespace Mine.all
def tw10034031380863371641:=True
def tw100579137028481972:=True
def tw10073190252686323273:=True
def tw10073889100849167130:=True
def tw10081088541268293599:=True
def tw10130366669087276332:=True
def tw10131221437080536637:=True
def tw10156424416328317940:=True
def tw10168888151487559394:=True
def tw10175558820241607032:=True
def tw10277526245819850656:=True
def tw10312239555926195531:=True
def tw10316705163991428254:=True
def tw10323370424266482742:=True
def tw10331167273965929257:=True
def tw10389294372677164839:=True
def tw10393596885623623503:=True
def tw10422597752594338585:=True
def tw10576110018494610262:=True
def tw10600613889749566790:=True
def tw10636018739910865072:=True
def tw10640303290150162726:=True
def tw10649901628825759099:=True
def tw10658958392246782621:=True
def tw10677670038743541358:=True
def tw10681620039792923934:=True
def tw1075291646940621582:=True
def tw1081408078033650336:=True
def tw10856765595117590405:=True
def tw10915074446201010522:=True
def tw10921597071642053482:=True
def tw10923070005692675132:=True
def tw10942295900298899174:=True
def tw10971250334911043752:=True
def tw11038128598146805730:=True
def tw11045270430615452010:=True
def tw11051709101105081487:=True
def tw11084693905056812178:=True
def tw11091474679367250208:=True
def tw11093295523969242068:=True
def tw11102767992079720913:=True
def tw11113120797386210373:=True
def tw11116879363250112325:=True
def tw11120492362615346026:=True
def tw11139934685464864865:=True
def tw11158953913317867288:=True
def tw11169558830825096451:=True
def tw11230645906715702508:=True
def tw11242623580682996947:=True
def tw11273133048781285286:=True
def tw11375281295658956675:=True
def tw11441816438227186863:=True
def tw11446199593928302625:=True
def tw11448872678469705673:=True
def tw11488495728068971930:=True
def tw11489409643829403841:=True
def tw11533779600810293282:=True
def tw11536899603342547138:=True
def tw11578857210009302975:=True
def tw11736780227944870738:=True
def tw11757652711159077200:=True
def tw11784725038316003381:=True
def tw11798761498685784450:=True
def tw11904431243951574334:=True
def tw11925040711228000680:=True
def tw11928815663860865973:=True
def tw11931136993785318394:=True
def tw11931918283646908614:=True
def tw11951307492845570281:=True
def tw11961059351148515626:=True
def tw11990357761064164650:=True
def tw12028550053918628185:=True
def tw12071712058454129317:=True
def tw1216898108829112853:=True
def tw12180536567876656950:=True
def tw12221947951091446842:=True
def tw12248520049373816357:=True
def tw12254430714555821875:=True
def tw12267468486907949403:=True
def tw12304872625307995750:=True
def tw12381699962588209086:=True
def tw1238725946784135233:=True
def tw12405882331826627501:=True
def tw12428716410969305734:=True
def tw12447178028490564450:=True
def tw12540455083557110006:=True
def tw12563031120210811263:=True
def tw12580110897883145167:=True
def tw12588980310967471357:=True
def tw12784588452913835247:=True
def tw12819504698909858696:=True
def tw12885334096101347146:=True
def tw12899656968702213925:=True
def tw1291087626157917732:=True
def tw12926333453430215753:=True
def tw12981892083367582941:=True
def tw1298631472846954095:=True
def tw1298703533703416032:=True
def tw13027540482245733427:=True
def tw13042374122123996364:=True
def tw13098716769926991806:=True
def tw13100642850353945058:=True
def tw13113687655016186724:=True
def tw13132907815185506690:=True
def tw13172091369480311280:=True
def tw13185015893256467352:=True
def tw13215351417096909983:=True
def tw1326175403826912198:=True
def tw13270532327374429287:=True
def tw13283931332471535325:=True
def tw13338274903956020161:=True
def tw13358604424828501309:=True
def tw13370487131934946175:=True
def tw13423135486485445016:=True
def tw13492395982464255480:=True
def tw13492775673106092688:=True
def tw1352723322627576488:=True
def tw13596499734656872166:=True
def tw13607757164722159089:=True
def tw13663018214320142090:=True
def tw13752750167953387420:=True
def tw13900070722340429276:=True
def tw13912068318134460016:=True
def tw13928513891281363954:=True
def tw13930999109560414629:=True
def tw13960862262899742394:=True
def tw14003663102062188800:=True
def tw14044709251442629906:=True
def tw14074921412963316263:=True
def tw14099800850047386279:=True
def tw14106571916235994328:=True
def tw14204109254541194217:=True
def tw14229981574245695772:=True
def tw14242173848286271349:=True
def tw14288127532215574351:=True
def tw14310873030558110092:=True
def tw14331890051309236264:=True
def tw14421808642430287336:=True
def tw14444207656584330654:=True
def tw14539000326390715668:=True
def tw14647661154017913664:=True
def tw14648097213134440425:=True
def tw14648276583578725374:=True
def tw14701963045326077753:=True
def tw14762377901068444666:=True
def tw14832659646925512398:=True
def tw14848961488311411958:=True
def tw14849280956162755979:=True
def tw14883968960377749705:=True
def tw14929683446248860828:=True
def tw14970210157437980911:=True
def tw14984247238865676675:=True
def tw15014361466247048854:=True
def tw1502791274788384024:=True
def tw15059917014629022394:=True
def tw15076152544538823220:=True
def tw15081044799308232511:=True
def tw15097909243742831393:=True
def tw15105651507014581045:=True
def tw15145278206449419223:=True
def tw15151187641303801864:=True
def tw15158558636265767147:=True
def tw15177051354528302492:=True
def tw15198316981687975854:=True
def tw15242674970999812785:=True
def tw15248031165874397040:=True
def tw15284455985751111415:=True
def tw15305453227285626446:=True
def tw15389465554420088467:=True
def tw15414233836422861205:=True
def tw15451204947285891726:=True
def tw15519761934197397234:=True
def tw15541118713287057729:=True
def tw15575253945988166476:=True
def tw15618092478124507917:=True
def tw15670805634923389295:=True
def tw15671812041987572844:=True
def tw15721374995884420057:=True
def tw15752952843564404989:=True
def tw15849158762323818722:=True
def tw1585303152785439333:=True
def tw15888951733556516598:=True
def tw15902913901339227234:=True
def tw15906484144062456574:=True
def tw15926794790568321017:=True
def tw16038885495234672192:=True
def tw1604050991321148793:=True
def tw16136937179128050694:=True
def tw16183010546200382306:=True
def tw16223638597430114740:=True
def tw16288533217561068507:=True
def tw16339503202031470875:=True
def tw16343358479756248724:=True
def tw1639981616727947583:=True
def tw16400751074865733910:=True
def tw16424727738075169484:=True
def tw16447172759540358135:=True
def tw16457593375850944212:=True
def tw16573077582942348641:=True
def tw16576222957257545530:=True
def tw16592893570014863828:=True
def tw16644902639655322133:=True
def tw16665526110328478529:=True
def tw16694476904998839863:=True
def tw16720883766928916882:=True
def tw16739083755425606968:=True
def tw16739844878667351699:=True
def tw16747629065405408630:=True
def tw16788233547135642414:=True
def tw16838893715234930207:=True
def tw16857469709051444266:=True
def tw16876236935048986776:=True
def tw16985871876413990642:=True
def tw16987476370533704557:=True
def tw17106608494224303150:=True
def tw17125581162357932889:=True
def tw1717485560449817402:=True
def tw17226710117840441907:=True
def tw17259241986408110582:=True
def tw17260577670642009320:=True
def tw17266974736607036637:=True
def tw17292822351017121783:=True
def tw17314943208353570444:=True
def tw1734884918528286522:=True
def tw17360653242477243975:=True
def tw17368901067910498557:=True
def tw17393663094203119047:=True
def tw17394647144938102915:=True
def tw17447734377096445370:=True
def tw17485024515217194642:=True
def tw17558465517493045558:=True
def tw1758426702102747128:=True
def tw17590515576409907731:=True
def tw1768962640154500726:=True
def tw17711858352077950875:=True
def tw17717444079117462278:=True
def tw17740860788197283744:=True
def tw17850844241321887244:=True
def tw17899929404969355535:=True
def tw17933553581876595578:=True
def tw17983917188297756147:=True
def tw18003279642469066050:=True
def tw18074533905802821072:=True
def tw18111398738982083773:=True
def tw18118164260907729349:=True
def tw18124843273605240230:=True
def tw1832691508475867565:=True
def tw18343157571677020557:=True
def tw18369841484834026144:=True
def tw18422150028754028023:=True
def tw18440353960458814819:=True
def tw18441473437031201941:=True
def tw1963270939698246839:=True
def tw1973140245219671491:=True
def tw1985402699469526011:=True
def tw2000609977361463965:=True
def tw200202858802481044:=True
def tw2013830700403712203:=True
def tw201708328148552895:=True
def tw2020152571437148077:=True
def tw2090246831465914633:=True
def tw225468126006155290:=True
def tw2286941943676669977:=True
def tw2362829445674453831:=True
def tw2366535826993118143:=True
def tw2406872565856053176:=True
def tw2412950195513398651:=True
def tw247909236438806434:=True
def tw2479237469882504799:=True
def tw2496985677507960046:=True
def tw2543849888741498996:=True
def tw2613816272192447989:=True
def tw2617199346225702121:=True
def tw2627396739876165418:=True
def tw2638793534194840904:=True
def tw2711446468545577505:=True
def tw2750322548573693319:=True
def tw2792250951161479536:=True
def tw281770217567036725:=True
def tw282994513109133150:=True
def tw2863937026978368667:=True
def tw2891402810631288588:=True
def tw2972125363121769464:=True
def tw2997595627926355555:=True
def tw3020832510069240704:=True
def tw306535358961565008:=True
def tw3108443244893856389:=True
def tw3138800457800853586:=True
def tw3140866203998610647:=True
def tw3153289441736887298:=True
def tw3165661143165402847:=True
def tw3185962312253278316:=True
def tw3239841934065285509:=True
def tw3282140407130366615:=True
def tw3298683737301795645:=True
def tw3318330705443729038:=True
def tw3318677167507295741:=True
def tw3339628229899013760:=True
def tw3357559941945735724:=True
def tw3390864358609898268:=True
def tw3440317332850252569:=True
def tw3443626597506986169:=True
def tw3468823194966119755:=True
def tw3527972740633252992:=True
def tw3578222212851893600:=True
def tw3586251380002802234:=True
def tw3630066180865283129:=True
def tw3752823991295833705:=True
def tw3788544764152331944:=True
def tw3832104259330054055:=True
def tw3849640880644552707:=True
def tw3855190133869164905:=True
def tw3949192924188805160:=True
def tw397829171339713761:=True
def tw4049413732980777947:=True
def tw407466490171300439:=True
def tw4108404489650264046:=True
def tw4154878040674242839:=True
def tw4198835854440487071:=True
def tw4214497047443048748:=True
def tw4215066571649420964:=True
def tw4241227540667249002:=True
def tw433751870149770472:=True
def tw4350801690150286559:=True
def tw44263415142174766:=True
def tw4430775014708722610:=True
def tw4498182102138418894:=True
def tw4515135292898193881:=True
def tw4547723090059260100:=True
def tw4561188658046838414:=True
def tw4569177814739866521:=True
def tw4613487602407358717:=True
def tw4613981591765525805:=True
def tw4631590275013254457:=True
def tw4634341240264483431:=True
def tw4645612490112672357:=True
def tw4716985721665009587:=True
def tw4722931859811370693:=True
def tw4726450323565452186:=True
def tw4786962568827011835:=True
def tw4801688742562958406:=True
def tw4818641064637329869:=True
def tw4831860214510110302:=True
def tw4874642235004048027:=True
def tw4927947371108770993:=True
def tw4965207536615798822:=True
def tw497388943360791162:=True
def tw4983024317834737482:=True
def tw5002070824922625533:=True
def tw5007245332940595331:=True
def tw5103420120806187630:=True
def tw5103548895888603802:=True
def tw5162543521180666497:=True
def tw5191467471856622273:=True
def tw5217560924200664910:=True
def tw525001674005675781:=True
def tw5377772837010204750:=True
def tw5439016543574858206:=True
def tw5440085390276978291:=True
def tw5463181917568680212:=True
def tw549974085012918235:=True
def tw5543487718492105064:=True
def tw5555718599999811639:=True
def tw5615151462926910227:=True
def tw5615934883764171431:=True
def tw561872325786274548:=True
def tw5641124861440336686:=True
def tw5646740079091317433:=True
def tw5657931515703916248:=True
def tw5689438673786977140:=True
def tw5718967094426423161:=True
def tw5727973534668710794:=True
def tw5750698986362780913:=True
def tw5761313309558253367:=True
def tw5792543908132139722:=True
def tw5815207240830897808:=True
def tw5827993322838903629:=True
def tw5870148494974776200:=True
def tw5884965284304258897:=True
def tw5888537115427479600:=True
def tw5919330448614353153:=True
def tw5931688323066260514:=True
def tw5936211784296988740:=True
def tw6169999212503205497:=True
def tw6176105912117767087:=True
def tw6189357195160471388:=True
def tw6262824470706933378:=True
def tw6271033356711949733:=True
def tw629097876249571350:=True
def tw6346151847814479910:=True
def tw636524550079685631:=True
def tw6405578165278201989:=True
def tw6495733333828780514:=True
def tw6516363680345034613:=True
def tw6575127235232548739:=True
def tw6635522753158126860:=True
def tw6648324312943424196:=True
def tw6656463916972431421:=True
def tw6674347012523051200:=True
def tw6686757251022233349:=True
def tw6717767316833874322:=True
def tw6742200501135914891:=True
def tw6836359950869179439:=True
def tw6849123771955923804:=True
def tw6853843781069519680:=True
def tw6860577389561355601:=True
def tw6873541528101158377:=True
def tw68815829978753266:=True
def tw6883241306338605731:=True
def tw6888782338466086140:=True
def tw6900727353157573822:=True
def tw6946980451890315270:=True
def tw7054471482915465567:=True
def tw7062720368445256129:=True
def tw7091565871241343341:=True
def tw7159026401054745538:=True
def tw7193976414177721783:=True
def tw7205895575636617080:=True
def tw7234240908195146063:=True
def tw7238125184777875665:=True
def tw7317653850160689691:=True
def tw7347661181068853997:=True
def tw7400686549319467544:=True
def tw7514489123796633772:=True
def tw7546461858588002845:=True
def tw7619113539625694710:=True
def tw7654578318931278690:=True
def tw7657994479303150727:=True
def tw7660858615051961871:=True
def tw766856551031688912:=True
def tw7686242042924871683:=True
def tw7755422918602135030:=True
def tw7777503306985399338:=True
def tw7778630667622746703:=True
def tw7779866328928976063:=True
def tw7785168158365692624:=True
def tw7824222052329908659:=True
def tw785864177541677141:=True
def tw7916160540357663616:=True
def tw7918374967389245632:=True
def tw7946034326556018432:=True
def tw7957553974722075628:=True
def tw8007103614756019116:=True
def tw8013882960148741844:=True
def tw80721349811472939:=True
def tw8076105961534405009:=True
def tw8096221689764760052:=True
def tw8108845850537571710:=True
def tw8111057081096800836:=True
def tw8146785798897364014:=True
def tw8166991320080258738:=True
def tw8183209053709734173:=True
def tw8203446524507428889:=True
def tw8316665608867782698:=True
def tw8322597137079436277:=True
def tw8401958774316805891:=True
def tw8486076525276431931:=True
def tw8486705261324164726:=True
def tw8593244855664925795:=True
def tw8600759836979252552:=True
def tw8670540905479144303:=True
def tw8678582069086723682:=True
def tw8689057759390064058:=True
def tw8706731066875689191:=True
def tw8711421783369662179:=True
def tw8728704332973717658:=True
def tw8749193726656077916:=True
def tw8820459466428253018:=True
def tw8838840417862019655:=True
def tw884644925536651315:=True
def tw8857914048673524507:=True
def tw8865166961438382494:=True
def tw888978351763286717:=True
def tw8901488873923373992:=True
def tw8908958038130373740:=True
def tw8909644736058714228:=True
def tw8951482229492004806:=True
def tw8968355716326206664:=True
def tw898707613593260451:=True
def tw9022205114861038860:=True
def tw9069304868558884969:=True
def tw9090173269774583996:=True
def tw9111709882147129655:=True
def tw9131408386013701786:=True
def tw9133701021851612117:=True
def tw9163178095015654352:=True
def tw9241353231930656577:=True
def tw9285670843845949155:=True
def tw9301309066579124778:=True
def tw9305783451064888827:=True
def tw9385597778382524922:=True
def tw9514876090768664877:=True
def tw9526568234960664165:=True
def tw9592678889267232940:=True
def tw9600454056292803967:=True
def tw9609096358927944886:=True
def tw9642480246203547912:=True
def tw9700507354520375304:=True
def tw9743695723290020096:=True
def tw9764797518255496921:=True
def tw9833964599435250050:=True
def tw9900696922168193843:=True
def tw9976896545867408452:=True
end Mine.all
theorem Mine.Lake.frag_in {K K' : Frag} {h : Heap} (X : K.In h) (e : (K'.map fun p => K.lookup p.1) = K'.map fun p => some p.2) : K'.In h := fun a o hl => by
  have hm := Mine.Lake.bC hl
  have : ∀ l : Frag, (l.map fun p => K.lookup p.1) = (l.map fun p => some p.2) → (a, o) ∈ l → K.lookup a = some o := fun l => by
    induction l with
    | nil => intro _ h; cases h
    | cons p r ih =>
      intro e h
      rw [List.map_cons, List.map_cons, List.cons.injEq] at e
      rcases List.mem_cons.mp h with rfl | h
      · exact e.1
      · exact ih e.2 h
  exact X a o (this K' e hm)
set_option Elab.async true
theorem Mine.all : PySem.Challenge.rw_uf060003_09.Holds := by
  w_on; o_law; k_head; (case hw => w_witness2)
  intro w s₀ s₁ mg mb G Y fa o pm cd doc dV kV ho hd hcd hD hmg hg args vals as hpre hlay hrd hwl hlo
  have KY := kIn_of Y
  have KX : (Mine.Lake.K0 w.params).In s₁.heap := Mine.Lake.frag_in KY (by kernel_rfl)
  refine Ground.open G ?_
  intro T B D TE TW
  clear hd hcd hD ho
  wrow_args hpre hlay hrd hwl hlo
  rename_i sn _ _ _ _ _ _ _ sa sv _ hL _ _ _ hI _ hlen _
  have hfa : fa = 449 := by
    have h1 : nsIn (Mine.Lake.K0 w.params) mainGlobals (Str.ofString "law") = some (some (.ref 449)) := by kernel_rfl
    have h2 := mg_of KX T.g h1
    have h3 : mg (Str.ofString "law") = some (.ref fa) := hmg
    rw [h2] at h3; injection h3 with h3; injection h3 with h3; exact h3.symm
  subst hfa
  have C : Mine.Lake.bL (Mine.Lake.Gx w s₁.heap s₁.os mg mb sa sv sn) := ⟨KX, T.g, T.b, T.builtins, T.nolimit, T.seer (by decide +kernel), rfl, hL, hI, by show sn.length ≤ 63; omega⟩
  refine enter_call (Mine.Lake.JI ⟨w, s₁.heap, s₁.os, mg, mb, sa, sv, sn⟩ C s₁ _ rfl rfl hg fun s' hk hos hgn => GoodW.toG ⟨.inl ⟨.bool true, .bool true, [], rfl, fun cls => rfl, .bool true, by kernel_rfl, fun _ => ⟨List.nodup_nil, nofun⟩⟩, hk, hos, hgn⟩)
theorem PySem.Challenge.cw_uf060003_09_holds : PySem.Challenge.rw_uf060003_09.Holds :=
  Mine.all
