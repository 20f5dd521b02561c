import PyProof.Rows.All
import KE.KUnpack
import KE.KBytesCut
import KE.KDictSum
import KE.KPairComp
import KE.KRevSl
import KE.KSuper
import ObjForm.ListNI
import Lean
import PySem.Challenge.RW_sj0145_01
set_option Elab.async false
set_option genInjectivity false
set_option genSizeOf false
set_option hygiene false
set_option tactic.hygienic false
set_option genCtorIdx false
set_option compiler.extract_closed false
set_option bootstrap.genMatcherCode false
set_option maxRecDepth 1000000
set_option linter.all false
open PySem PySem.W PySem.Calls PyProof.Rows
noncomputable section
namespace Mine
local macro_rules
  | `(tactic| obtain $p := $h) => `(tactic| (refine (let g9 : Prop := _; (?_ : g9)); (rcases $h:term with $p) <;> (unfold g9; clear g9)))
section
def Aw:=@List.getElem?_eq_getElem
def A8:=@And.intro
def Ak:=@List.length_map
def AW:=@Exists.elim
def AR:=@wpAny_bind
def AO:=@congrArg
def Az:=@List.mem_singleton
def BY:=@Option.map_eq_some_iff
def C4:=@List.getD_eq_getElem?_getD
def BH:=@List.size_toArray
def An:=@wpAny_pure
def Bj:=@List.mem_of_getElem?
def Ac:=@And.elim
def BL:=@Option.some.inj
def Bb:=@List.getElem?_map
def CP:=@Option.bind_eq_some_iff
def CE:=@List.length_append
def BE:=@Nat.le_trans
def CZ:=@Heap.get?_push_of_some
def B6:=@wpAny_mono
def Bg:=@decide_eq_true
def Bq:=@List.mem_append
def C0:=@decide_eq_false
def CW:=@Bool.false_ne_true
def Cb:=@of_decide_eq_true
def CX:=@List.map_append
def D6:=@List.getElem?_eq_some_iff
def Dh:=@Int.natCast_nonneg
def EP:=@List.getElem?_eq_none
def Dt:=@List.mem_cons_self
def ED:=@Heap.get?_push_size
def Cc:=@Nat.ne_of_lt
def Cm:=@Heap.lt_size
def D7:=@beq_iff_eq
def EE:=@List.all_eq_true
def Bf:=@Eq.refl
def CQ:=@eq_of_beq
def HB:=@List.getElem?_append_left
def Fu:=@List.mem_append_left
def Co:=@List.mem_cons
def GN:=@List.mem_append_right
def FQ:=@wpAny_truthy_bool
def GO:=@List.mem_cons_of_mem
def Ik:=@List.getLast?_eq_some_getLast
def C1:=@Ne.symm
def DT:=@List.mem_map
def Fv:=@Nat.lt_of_lt_of_le
def ER:=@wpAny_holding
def ES:=@decide_eq_decide
def GP:=@Bool.and_eq_true_iff
def Fw:=@List.getElem_mem
def Fx:=@List.drop_length
def HC:=@List.mem_map_of_mem
def Em:=@Int.le_trans
def GQ:=@Nat.lt_succ_self
def Kd:=@List.lookup_cons
def Il:=@Int.eq_ofNat_of_zero_le
def Fy:=@wpAny_Compare1
def Hr:=@Int.toNat_of_nonneg
def Eo:=@sizeLine_eq
def Im:=@List.foldl_cons
def GR:=@List.append_nil
def HD:=@wpAny_loadName_local
def A5:=@if_neg
def A6:=@if_pos
def Ad:=@absurd
def GS:=@Calls.Name_function_global
@[elab_as_elim] theorem tr{A:Sort _}{a b:A}{p:A->Prop}(e:a=b)(h:p b):p a:=e▸h
@[elab_as_elim] theorem rt{A:Sort _}{a b:A}{p:A->Prop}(e:a=b)(h:p a):p b:=e▸h
def Ch(F:Prop->Prop):Prop:=∀z:Prop,F z->z
def AJ{A:Sort _}{a:A->Prop}{e:A->Prop}{G:Prop}(h:∃x:A,a x/\e x)(f:∀x:A,a x->e x->G):G:=AW h λz w=>Ac (f z) w
def C9{A:Prop}{a:Prop}{y:Prop}{G:Prop}(h:A/\a/\y)(f:A->a->y->G):G:=Ac (λz w=>Ac (f z) w) h
def HE{A:Sort _}{a:Sort _}{l:A->a->Prop}{G:Prop}(h:∃x:A,∃X:a,l x X)(f:∀x:A,∀X:a,l x X->G):G:=AW h λz w=>AW w (f z)
def B9{A:Sort _}{a:Sort _}{l:A->a->Prop}{e:A->a->Prop}{G:Prop}(h:∃x:A,∃X:a,l x X/\e x X)(f:∀x:A,∀X:a,l x X->e x X->G):G:=AW h λz w=>AJ w (f z)
def BX{A:Sort _}{a:A->Prop}{e:A->Prop}{y:A->Prop}{G:Prop}(h:∃x:A,a x/\e x/\y x)(f:∀x:A,a x->e x->y x->G):G:=AW h λz w=>C9 w (f z)
def Cp{A:Prop}{a:Prop}{y:Prop}{Q:Prop}{G:Prop}(h:A/\a/\y/\Q)(f:A->a->y->Q->G):G:=Ac (λz w=>C9 w (f z)) h
def F3{A:Sort _}{a:Prop}{e:A->Prop}{y:A->Prop}{G:Prop}(h:a/\∃x:A,e x/\y x)(f:a->∀x:A,e x->y x->G):G:=Ac (λz w=>AJ w (f z)) h
def Mx{A:Sort _}{a:Sort _}{c:Sort _}{l:A->a->c->Prop}{G:Prop}(h:∃x:A,∃X:a,∃t:c,l x X t)(f:∀x:A,∀X:a,∀t:c,l x X t->G):G:=AW h λz w=>HE w (f z)
def C2{A:Sort _}{a:Sort _}{l:A->a->Prop}{e:A->a->Prop}{y:A->a->Prop}{G:Prop}(h:∃x:A,∃X:a,l x X/\e x X/\y x X)(f:∀x:A,∀X:a,l x X->e x X->y x X->G):G:=AW h λz w=>BX w (f z)
def Ht{A:Sort _}{a:A->Prop}{e:A->Prop}{y:A->Prop}{Q:A->Prop}{G:Prop}(h:∃x:A,a x/\e x/\y x/\Q x)(f:∀x:A,a x->e x->y x->Q x->G):G:=AW h λz w=>Cp w (f z)
def My{A:Prop}{a:Prop}{y:Prop}{Q:Prop}{B:Prop}{G:Prop}(h:A/\a/\y/\Q/\B)(f:A->a->y->Q->B->G):G:=Ac (λz w=>Cp w (f z)) h
def aq{A:Sort _}{a:Sort _}{c:Sort _}{l:A->a->c->Prop}{e:A->a->c->Prop}{G:Prop}(h:∃x:A,∃X:a,∃t:c,l x X t/\e x X t)(f:∀x:A,∀X:a,∀t:c,l x X t->e x X t->G):G:=AW h λz w=>B9 w (f z)
def yc{A:Sort _}{a:Prop}{e:Prop}{y:A->Prop}{Q:A->Prop}{G:Prop}(h:a/\e/\∃x:A,y x/\Q x)(f:a->e->∀x:A,y x->Q x->G):G:=Ac (λz w=>F3 w (f z)) h
def Ke{A:Sort _}{a:Sort _}{c:Sort _}{l:A->a->c->Prop}{e:A->a->c->Prop}{y:A->a->c->Prop}{G:Prop}(h:∃x:A,∃X:a,∃t:c,l x X t/\e x X t/\y x X t)(f:∀x:A,∀X:a,∀t:c,l x X t->e x X t->y x X t->G):G:=AW h λz w=>C2 w (f z)
def UN{A:Sort _}{a:Sort _}{l:A->a->Prop}{e:A->a->Prop}{y:A->a->Prop}{Q:A->a->Prop}{G:Prop}(h:∃x:A,∃X:a,l x X/\e x X/\y x X/\Q x X)(f:∀x:A,∀X:a,l x X->e x X->y x X->Q x X->G):G:=AW h λz w=>Ht w (f z)
def PH{A:Sort _}{a:A->Prop}{e:A->Prop}{y:A->Prop}{Q:A->Prop}{B:A->Prop}{G:Prop}(h:∃x:A,a x/\e x/\y x/\Q x/\B x)(f:∀x:A,a x->e x->y x->Q x->B x->G):G:=AW h λz w=>My w (f z)
def UO{A:Prop}{a:Prop}{y:Prop}{Q:Prop}{B:Prop}{e:Prop}{G:Prop}(h:A/\a/\y/\Q/\B/\e)(f:A->a->y->Q->B->e->G):G:=Ac (λz w=>My w (f z)) h
def PI{a:Sort _}{A0:Sort _}{c:Sort _}{m:Sort _}{l:a->A0->c->m->Prop}{e:a->A0->c->m->Prop}{y:a->A0->c->m->Prop}{G:Prop}(h:∃x:a,∃X:A0,∃t:c,∃A:m,l x X t A/\e x X t A/\y x X t A)(f:∀x:a,∀X:A0,∀t:c,∀A:m,l x X t A->e x X t A->y x X t A->G):G:=AW h λz w=>Ke w (f z)
def HF{A:Sort _}{a:Sort _}{c:Sort _}{l:A->a->c->Prop}{e:A->a->c->Prop}{y:A->a->c->Prop}{Q:A->a->c->Prop}{G:Prop}(h:∃x:A,∃X:a,∃t:c,l x X t/\e x X t/\y x X t/\Q x X t)(f:∀x:A,∀X:a,∀t:c,l x X t->e x X t->y x X t->Q x X t->G):G:=AW h λz w=>UN w (f z)
namespace A
abbrev LF:=Int×List Int
noncomputable def dot:List Int->(Nat->Int)->Int
 | [],_=>0
 | c::cs,r=>c*r 0+dot cs λj=>r (j+1)
noncomputable def ev (f:LF)(r:Nat->Int):Int:=f.1+dot f.2 r
noncomputable def lcs (a b:Int):List Int->List Int->List Int
 | [],Y=>Y.map (b* ·)
 | x::xs,[]=>a*x::lcs a b xs []
 | x::xs,y::Y=>(a*x+b*y)::lcs a b xs Y
noncomputable def lc (a:Int)(f:LF)(b:Int)(g:LF):LF:=(a*f.1+b*g.1,lcs a b f.2 g.2)
noncomputable def hd (f:LF):Int:=f.2.headD 0
noncomputable def tl (f:LF):LF:=(f.1,f.2.tail)
noncomputable def ng (x:Int):Bool:=match x with| .negSucc _=>true| .ofNat _=>false
noncomputable def Hu (x:Int):Bool:=match x with| .ofNat n=>Nat.beq n 0| .negSucc _=>false
abbrev Ct:=Bool×LF
noncomputable def fe:List Ct->Option LF
 | []=>none
 | c::l=>cond (c.1&&!Hu (hd c.2)) (some c.2) (fe l)
noncomputable def sg (x:Int):Int:=cond (ng x) (-1) 1
noncomputable def su (e:LF)(g:Ct):Ct:=(g.1,cond (Hu (hd g.2)) (tl g.2) (tl (lc (sg (hd e)*hd e) g.2 (-(sg (hd e)*hd g.2)) e)))
noncomputable def Io (p:LF)(n:Ct):List Ct:=cond (!n.1&&ng (hd n.2)) [(false,tl (lc (-hd n.2) p (hd p) n.2))] []
noncomputable def GU (f:List Ct)(p:Ct):List Ct:=cond (Hu (hd p.2)) [(p.1,tl p.2)] (cond (p.1||ng (hd p.2)) [] (f.flatMap (Io p.2)))
noncomputable def PJ (f:List Ct):List Ct:=match fe f with| some e=>f.map (su e)| none=>f.flatMap (GU f)
noncomputable def bad (f:Ct):Bool:=f.2.2.isEmpty&&cond f.1 (!Hu f.2.1) (ng f.2.1)
noncomputable def fm:Nat->List Ct->Bool
 | 0,f=>f.any bad
 | k+1,f=>fm k (PJ f)
abbrev Al:=List Ct×LF
noncomputable def B7 (X Y:List Al)(f:LF->LF->List Al):List Al:=X.flatMap λx=>Y.flatMap λy=>(f x.2 y.2).map λz=>(x.1++y.1++z.1,z.2)
inductive TF| at_(o i:Nat)| un(o:Nat)(a:TF)| bi(o:Nat)(a b:TF)
noncomputable def TF.den (n:List Nat)(C:List Int):TF->Nat×Int×Prop
 | .at_ 0 k=>(k,k,False)
 | .at_ 1 i=>(n.getD i 0,0,False)
 | .at_ _ i=>(0,C.getD i 0,False)
 | .un 0 a=>(0,-(a.den n C).2.1,¬(a.den n C).2.2)
 | .un 1 a=>((a.den n C).2.1.toNat,((a.den n C).1:Int),False)
 | .un (k+2) a=>(k*(a.den n C).1,k*(a.den n C).2.1,False)
 | .bi 0 a b=>((a.den n C).1+(b.den n C).1,(a.den n C).2.1+(b.den n C).2.1,(a.den n C).1<=(b.den n C).1)
 | .bi 1 a b=>((a.den n C).1-(b.den n C).1,(a.den n C).2.1-(b.den n C).2.1,(a.den n C).1<(b.den n C).1)
 | .bi 2 a b=>(min (a.den n C).1 (b.den n C).1,min (a.den n C).2.1 (b.den n C).2.1,(a.den n C).1=(b.den n C).1)
 | .bi 3 a b=>(max (a.den n C).1 (b.den n C).1,max (a.den n C).2.1 (b.den n C).2.1,(a.den n C).2.1<=(b.den n C).2.1)
 | .bi 4 a b=>(0,0,(a.den n C).2.1<(b.den n C).2.1)
 | .bi 5 a b=>(0,0,(a.den n C).2.1=(b.den n C).2.1)
 | .bi 6 a b=>(0,0,(a.den n C).2.2/\(b.den n C).2.2)
 | .bi 7 a b=>(0,0,(a.den n C).2.2\/(b.den n C).2.2)
 | .bi 8 a b=>(0,0,(a.den n C).1≠(b.den n C).1)
 | .bi 9 a b=>(0,0,(a.den n C).2.1≠(b.den n C).2.1)
 | .bi _ a b=>(0,0,(a.den n C).2.2->(b.den n C).2.2)
noncomputable def vr (j:Nat):LF:=(0,List.replicate j 0++[1])
noncomputable def zr:List Al:=[([],0,[])]
noncomputable def CY (x y:LF):Ct:=(false,lc (-1) x 1 y)
noncomputable def CF (x y:LF):Ct:=(false,(lc (-1) x 1 y).1-1,(lc (-1) x 1 y).2)
noncomputable def Hv (x y:LF):Ct:=(true,lc (-1) x 1 y)
noncomputable def Bu (l:List Ct)(v:LF):List Al:=[(l,v)]
noncomputable def Kf (x y:LF):List Al:=[([CF x y],x),([CF y x],x)]
noncomputable def TF.I:TF->List Al×List Al×List Al×List Al
 | .at_ 0 k=>(Bu [] (k,[]),Bu [] (k,[]),[],zr)
 | .at_ 1 i=>(Bu [] (vr (2*i)),zr,[],zr)
 | .at_ _ i=>(zr,Bu [] (vr (2*i+1)),[],zr)
 | .un 0 a=>(zr,B7 a.I.2.1 zr λx y=>Bu [] (lc (-1) x 1 y),a.I.2.2.2,a.I.2.2.1)
 | .un 1 a=>(B7 a.I.2.1 zr λx y=>[([CY y x],x),([CF x y],y)],a.I.1,[],zr)
 | .un (k+2) a=>(B7 a.I.1 zr λx y=>Bu [] (lc k x 1 y),B7 a.I.2.1 zr λx y=>Bu [] (lc k x 1 y),[],zr)
 | .bi 0 a b=>(B7 a.I.1 b.I.1 λx y=>Bu [] (lc 1 x 1 y),B7 a.I.2.1 b.I.2.1 λx y=>Bu [] (lc 1 x 1 y),B7 a.I.1 b.I.1 λx y=>Bu [CY x y] x,B7 a.I.1 b.I.1 λx y=>Bu [CF y x] x)
 | .bi 1 a b=>(B7 a.I.1 b.I.1 λx y=>[([CY y x],lc 1 x (-1) y),([CF x y],0,[])],B7 a.I.2.1 b.I.2.1 λx y=>Bu [] (lc 1 x (-1) y),B7 a.I.1 b.I.1 λx y=>Bu [CF x y] x,B7 a.I.1 b.I.1 λx y=>Bu [CY y x] x)
 | .bi 2 a b=>(B7 a.I.1 b.I.1 λx y=>[([CY x y],x),([CF y x],y)],B7 a.I.2.1 b.I.2.1 λx y=>[([CY x y],x),([CF y x],y)],B7 a.I.1 b.I.1 λx y=>Bu [Hv x y] x,B7 a.I.1 b.I.1 Kf)
 | .bi 3 a b=>(B7 a.I.1 b.I.1 λx y=>[([CY x y],y),([CF y x],x)],B7 a.I.2.1 b.I.2.1 λx y=>[([CY x y],y),([CF y x],x)],B7 a.I.2.1 b.I.2.1 λx y=>Bu [CY x y] x,B7 a.I.2.1 b.I.2.1 λx y=>Bu [CF y x] x)
 | .bi 4 a b=>(zr,zr,B7 a.I.2.1 b.I.2.1 λx y=>Bu [CF x y] x,B7 a.I.2.1 b.I.2.1 λx y=>Bu [CY y x] x)
 | .bi 5 a b=>(zr,zr,B7 a.I.2.1 b.I.2.1 λx y=>Bu [Hv x y] x,B7 a.I.2.1 b.I.2.1 Kf)
 | .bi 6 a b=>(zr,zr,B7 a.I.2.2.1 b.I.2.2.1 λx Z=>Bu [] x,a.I.2.2.2++b.I.2.2.2)
 | .bi 7 a b=>(zr,zr,a.I.2.2.1++b.I.2.2.1,B7 a.I.2.2.2 b.I.2.2.2 λx Z=>Bu [] x)
 | .bi 8 a b=>(zr,zr,B7 a.I.1 b.I.1 Kf,B7 a.I.1 b.I.1 λx y=>Bu [Hv x y] x)
 | .bi 9 a b=>(zr,zr,B7 a.I.2.1 b.I.2.1 Kf,B7 a.I.2.1 b.I.2.1 λx y=>Bu [Hv x y] x)
 | .bi _ a b=>(zr,zr,a.I.2.2.2++b.I.2.2.1,B7 a.I.2.2.1 b.I.2.2.2 λx Z=>Bu [] x)
noncomputable def UP (f:TF->TF):List TF->List TF
 | a::s=>f a::s
 | []=>[]
noncomputable def au (f:TF->TF->TF):List TF->List TF
 | b::a::s=>f a b::s
 | s=>s
noncomputable def Jk:Nat->Nat->List TF->List TF
 | 0,_,s=>s
 | k+1,c,s=>cond (Nat.beq c 0) s<|
  cond (Nat.ble (c % 32) 2) (Jk k (c/1024) (.at_ (c % 32) (c/32 % 32)::s))<|
  cond (Nat.beq (c % 32) 3) (Jk k (c/1024/32^(c/32 % 32)) (.at_ 0 (c/1024 % 32^(c/32 % 32))::s))<|
  cond (Nat.beq (c % 32) 6) (Jk k (c/1024) (UP (.un (c/32 % 32+2)) s))<|
  cond (Nat.ble (c % 32) 5) (Jk k (c/32) (UP (.un (c % 32-4)) s))<|
  Jk k (c/32) (au (.bi (c % 32-8)) s)
noncomputable def dec (c:Nat):List TF:=Jk 200 (c/1024) []
noncomputable abbrev gt (c j:Nat):TF:=(dec c).getD j (.at_ 0 0)
def Fc(c j:Nat)(n:List Nat)(C:List Int):Prop:=(TF.den n C (gt c j)).2.2
noncomputable def PK:Nat->List Ct
 | 0=>[]
 | k+1=>(false,vr (2*k))::PK k
noncomputable def cj (g:TF):List TF->List Al
 | []=>g.I.2.2.2
 | h::H=>B7 h.I.2.2.1 (cj g H) λx Z=>Bu [] x
noncomputable def tk (c:Nat):Nat->List TF
 | 0=>[]
 | k+1=>gt c (k+1)::tk c k
noncomputable def Hs (n:List Nat)(C:List Int):List TF->Prop
 | []=>True
 | h::H=>(h.den n C).2.2/\Hs n C H
noncomputable def FR (k c:Nat):Bool:=(cj (gt c 0) (tk c k)).all λa=>fm (c/32 % 32) (PK (c % 32)++a.1)
theorem UQ(b:Int):∀(l:List Int) (r:Nat->Int),dot (l.map (b* ·)) r=b*dot l r
 | [],_=>(Int.mul_zero b).symm
 | x::l,r=>(congr (AO HAdd.hAdd (Int.mul_assoc b x (r 0))) (UQ b l _)).trans (Int.mul_add b _ _).symm
def four(a b c d:Int):a+b+(c+d)=a+c+(b+d):=by rw[Int.add_assoc,Int.add_assoc,Int.add_left_comm b]
def comb(a b x y u v r:Int):(a*x+b*y)*r+(a*u+b*v)=a*(x*r+u)+b*(y*r+v):=by
 rw[Int.add_mul,Int.mul_add,Int.mul_add,four,Int.mul_assoc,Int.mul_assoc]
theorem PM(a b:Int):∀(l m:List Int) (r:Nat->Int),dot (lcs a b l m) r=a*dot l r+b*dot m r
 | [],m,r=>(UQ b m r).trans ((Int.zero_add _).symm.trans (AO (· +_) (Int.mul_zero a).symm))
 | x::l,[],r=>(congr (AO HAdd.hAdd (Int.mul_assoc a x (r 0))) (PM a b l [] _)).trans (by refine(?_:_+(_+b*0)=a*(_+_)+b*0);rw[Int.mul_add,Int.add_assoc])
 | x::l,y::m,r=>(AO (_+ ·) (PM a b l m _)).trans (comb ..)
def Kg(a b:Int)(f g:LF)(r:Nat->Int):ev (lc a f b g) r=a*ev f r+b*ev g r:=by
 refine(?_:a*f.1+b*g.1+dot (lcs a b f.2 g.2) r=a*(f.1+dot f.2 r)+b*(g.1+dot g.2 r));rw[PM,Int.mul_add,Int.mul_add,four]
def PN(a b:Int): -1*a+1*b=b-a:=by rw[Int.one_mul,Int.neg_mul,Int.one_mul,Int.add_comm];rfl
def PO(x y:LF)(r:Nat->Int):ev (CY x y).2 r=ev y r-ev x r:=(Kg (-1) 1 x y r).trans (PN ..)
def av(x y:LF)(r:Nat->Int):ev (CF x y).2 r=ev y r-ev x r-1:=(PO x y r)▸Int.add_right_comm _ (-1) _
def aw(f:LF)(r:Nat->Int):ev f r=hd f*r 0+ev (tl f) λj=>r (j+1):=
 match f with
 | (c,[])=>by refine(?_:c+0=0*r 0+(c+0));rw[Int.zero_mul,Int.zero_add]
 | (c,x::l)=>Int.add_left_comm ..
def UR(a b:Int)(f g:LF):hd (lc a f b g)=a*hd f+b*hd g:=
 match f,g with
 | (_,[]),(_,[])=>by refine(?_:(0:Int)=a*0+b*0);rw[Int.mul_zero,Int.mul_zero];rfl
 | (_,[]),(_,y::_)=>by refine(?_:b*y=a*0+b*y);rw[Int.mul_zero,Int.zero_add]
 | (_,x::_),(_,[])=>by refine(?_:a*x=a*x+b*0);rw[Int.mul_zero,Int.add_zero]
 | (_,_::_),(_,_::_)=>rfl
theorem ax:∀{x:Int},Hu x=true->x=0
 | .ofNat n,h=>AO Int.ofNat (Nat.eq_of_beq_eq_true h)
theorem PQ:∀{x:Int},ng x=true->x<0
 | .negSucc n,_=>Int.negSucc_lt_zero n
theorem US:∀{x:Int},ng x=false->0<=x
 | .ofNat n,_=>Dh n
def cn{A:Type}{b:Bool}{x y:A}{P:A->Prop}(h:P (cond b x y)):b=true/\P x\/b=false/\P y:=by
 cases b with| true=>exact .inl ⟨rfl,h⟩| false=>exact .inr ⟨rfl,h⟩
def Ok(r:Nat->Int)(f:Ct):Prop:=cond f.1 (ev f.2 r=0) (0<=ev f.2 r)
def Ok.z(h:Ok r f)(e:f.1=true):ev f.2 r=0:=by unfold Ok at h;rw[e] at h;exact h
def Ok.p(h:Ok r f)(e:f.1=false):0<=ev f.2 r:=by unfold Ok at h;rw[e] at h;exact h
noncomputable abbrev nx (r:Nat->Int):Nat->Int:=λj=>r (j+1)
def PR(h:hd f=0):ev (tl f) (nx r)=ev f r:=by rw[aw f r,h,Int.zero_mul,Int.zero_add]
def Ok.to(H:0<=c)(e:ev g R=c*ev f r)(h:Ok r (b,f)):Ok R (b,g):=by
 cases b with
 | true=>exact e.trans (h.z rfl▸Int.mul_zero c)
 | false=>exact(e▸Int.mul_nonneg H (h.p rfl):0<=ev g R)
def Ok.tl(e:Hu (hd f.2)=true)(h:Ok r f):Ok (nx r) (f.1,tl f.2):=Ok.to (f:=f.2) (c:=1) (by decide) ((PR (ax e)).trans (Int.one_mul _).symm) h
def ay(x:Int):0<=sg x*x:=by
 unfold sg;cases h:ng x with
 | true=>exact Int.mul_nonneg_of_nonpos_of_nonpos (by decide) (Int.le_of_lt (PQ h))
 | false=>exact(Int.one_mul x).symm▸US h
def az(H:ev e r=0)(h:Ok r g):Ok (nx r) (su e g):=by
 unfold su;cases k:Hu (hd g.2) with
 | true=>exact h.tl k
 | false=>
  refine Ok.to (f:=g.2) (ay (hd e)) ((PR ?_).trans ?_) h
  ·rw[UR,Int.mul_right_comm,Int.neg_mul,Int.add_right_neg]
  ·rw[Kg,H,Int.mul_zero,Int.add_zero]
def b2{r:Nat->Int}{e:LF}{l:List Ct}(a:∀f∈l,Ok r f)(h:fe l=some e):ev e r=0:=by
 induction l with
 | nil=>cases h
 | cons c l C=>exact(cn (P:=λz=>z=some e) h).elim (λw=>BL w.2▸(a c (.head _)).z (GP.1 w.1).1) λw=>C (λf m=>a f (.tail _ m)) w.2
def b6{p:LF}{n f:Ct}{r:Nat->Int}(P:0<=ev p r)(H:Ok r n)(k:0<=hd p)(h:f∈Io p n):Ok (nx r) f:=
 (cn h).elim (λ⟨e,w⟩=>by
  rw[Az.1 w];haveI e:=GP.1 e;refine(?_:0<=ev (tl (lc (-hd n.2) p (hd p) n.2)) (nx r));rw[PR (by rw[UR,Int.neg_mul,Int.mul_comm (hd n.2),Int.add_left_neg]),Kg];exact Int.add_nonneg (Int.mul_nonneg (Int.neg_nonneg_of_nonpos (Int.le_of_lt (PQ e.2))) P) (Int.mul_nonneg k (H.p (Bool.not_eq_true' _▸e.1)))) λw=>nomatch w.2
def b7{F:List Ct}{r:Nat->Int}(h:∀f∈F,Ok r f){p f:Ct}(H:Ok r p)(c:f∈GU F p):Ok (nx r) f:=
 (cn c).elim (λq=>Az.1 q.2▸H.tl q.1) λq=>(cn q.2).elim (λq=>nomatch q.2) λq=>
  (List.mem_flatMap.1 q.2).elim λn v=>b6 (H.p (Bool.or_eq_false_iff.1 q.1).1) (h n v.1) (US (Bool.or_eq_false_iff.1 q.1).2) v.2
def Ip(h:∀f∈F,Ok r f):∀f∈PJ F,Ok (nx r) f:=by
 unfold PJ;cases e:fe F with
 | some E=>exact λf H=>(DT.1 H).elim λg w=>w.2▸az (b2 h e) (h g w.1)
 | none=>exact λf H=>(List.mem_flatMap.1 H).elim λp w=>b7 h (h p w.1) w.2
def b8(h:Hu x=false):x≠0:=λe=>by rw[e] at h;cases h
def b9{f:Ct}{r:Nat->Int}(h:Ok r f)(w:bad f=true):False:=by
 haveI w:=GP.1 w;have q:ev f.2 r=f.2.1:=by unfold ev;rw[List.isEmpty_iff.1 w.1];exact Int.add_zero _
 exact(cn (P:=λz=>z=true) w.2).elim (λv=>b8 (Bool.not_eq_true' _▸v.2) (q▸h.z v.1)) λv=>Int.not_le.2 (PQ v.2) (q▸h.p v.1)
def bB:∀{F:List Ct} {r:Nat->Int},fm k F=true->(∀f∈F,Ok r f)->False:=by
 induction k with
 | zero=>exact λh a=>(List.any_eq_true.1 h).elim λf w=>b9 (a f w.1) w.2
 | succ k C=>exact λh a=>C h (Ip a)
section
variable(r:Nat->Int)
def Hl(l:List Ct):Prop:=∀f∈l,Ok r f
inductive Sv(X:List Al)(v:Int):Prop
 | mk (a:Al):a∈X->Hl r a.1->ev a.2 r=v->Sv X v
variable{r}
def Hl.nil:Hl r []:=λZ h=>nomatch h
def Hl.one(h:Ok r f):Hl r [f]:=λZ w=>Az.1 w▸h
def Hl.CY(e:ev x r=a)(f:ev y r=b)(h:a<=b):Hl r [A.CY x y]:=.one (by refine(?_:0<=ev (A.CY x y).2 r);rw[PO,e,f];exact Int.sub_nonneg_of_le h)
def Hl.CF(e:ev x r=a)(f:ev y r=b)(h:a<b):Hl r [A.CF x y]:=.one (by refine(?_:0<=ev (A.CF x y).2 r);rw[av,e,f];exact Int.le_sub_one_of_lt (Int.sub_pos_of_lt h))
def Hl.Hv(e:ev x r=a)(f:ev y r=b)(h:a=b):Hl r [A.Hv x y]:=.one (by refine(?_:ev (A.CY x y).2 r=0);rw[PO,e,f,h];exact Int.sub_self b)
def Sv.t(h:Hl r l)(e:ev v r=c):Sv r (Bu l v) c:=⟨_,.head _,h,e⟩
def Sv.a_(h:Hl r x.1)(e:ev x.2 r=c):Sv r (x::l) c:=⟨_,.head _,h,e⟩
def Sv.b_(h:Sv r l c):Sv r (x::l) c:=h.rec λy a b e=>⟨y,.tail _ a,b,e⟩
def Sv.z:Sv r zr 0:=Sv.a_ Hl.nil rfl
section
variable{X Y:List Al}{a b:Int}(h:Sv r X a)(k:Sv r Y b)
include h k
def Sv.B7(q:∀x y,ev x r=a->ev y r=b->Sv r (f x y) c):Sv r (B7 X Y f) c:=
 h.rec λx H l K=>k.rec λy k1 k2 k3=>(q x.2 y.2 K k3).rec λz q1 Q j=>
  ⟨(x.1++y.1++z.1,z.2),List.mem_flatMap.2 ⟨x,H,List.mem_flatMap.2 ⟨y,k1,DT.2 ⟨z,q1,rfl⟩⟩⟩,λf w=>(Bq.1 w).elim (λw=>(Bq.1 w).elim (l f) (k2 f)) (Q f),j⟩
def Sv.le(w:a<=b):∃v,Sv r (A.B7 X Y λx y=>Bu [CY x y] x) v:=⟨a,h.B7 k λZ Z e f=>.t (.CY e f w) e⟩
def Sv.lt(w:a<b):∃v,Sv r (A.B7 X Y λx y=>Bu [CF x y] x) v:=⟨a,h.B7 k λZ Z e f=>.t (.CF e f w) e⟩
def Sv.gt(w:b<a):∃v,Sv r (A.B7 X Y λx y=>Bu [CF y x] x) v:=⟨a,h.B7 k λZ Z e f=>.t (.CF f e w) e⟩
def Sv.ge(w:b<=a):∃v,Sv r (A.B7 X Y λx y=>Bu [CY y x] x) v:=⟨a,h.B7 k λZ Z e f=>.t (.CY f e w) e⟩
def Sv.eq(w:a=b):∃v,Sv r (A.B7 X Y λx y=>Bu [Hv x y] x) v:=⟨a,h.B7 k λZ Z e f=>.t (.Hv e f w) e⟩
def Sv.ne(w:a≠b):∃v,Sv r (A.B7 X Y Kf) v:=⟨a,h.B7 k λZ Z e f=>(Int.lt_or_gt_of_ne w).elim (λw=>.a_ (.CF e f w) e) λw=>.b_ (.a_ (.CF f e w) e)⟩
def Sv.mn:Sv r (A.B7 X Y λx y=>[([CY x y],x),([CF y x],y)]) (min a b):=h.B7 k λZ Z e f=>
 if w:a<=b then .a_ (.CY e f w) (e.trans (Int.min_eq_left w).symm) else .b_ (.a_ (.CF f e (Int.lt_of_not_ge w)) (f.trans (Int.min_eq_right (Int.le_of_lt (Int.lt_of_not_ge w))).symm))
def Sv.mx:Sv r (A.B7 X Y λx y=>[([CY x y],y),([CF y x],x)]) (max a b):=h.B7 k λZ Z e f=>
 if w:a<=b then .a_ (.CY e f w) (f.trans (Int.max_eq_right w).symm) else .b_ (.a_ (.CF f e (Int.lt_of_not_ge w)) (e.trans (Int.max_eq_left (Int.le_of_lt (Int.lt_of_not_ge w))).symm))
def Sv.lc(e:p*a+q*b=c):Sv r (A.B7 X Y λx y=>Bu [] (A.lc p x q y)) c:=h.B7 k λx y E R=>.t .nil ((Kg ..).trans (by rw[E,R];exact e))
end
def UT(a b:Int):1*a+1*b=a+b:=by rw[Int.one_mul,Int.one_mul]
def UU(a b:Int):1*a+ -1*b=a-b:=(Int.add_comm ..).trans (PN b a)
def Sv.sb{X Y:List Al}{m n:Nat}(h:Sv r X m)(k:Sv r Y n):Sv r (A.B7 X Y λx y=>[([CY y x],A.lc 1 x (-1) y),([CF x y],0,[])]) ((m-n:Nat):Int):=h.B7 k λx y e f=>
 if w:n<=m then .a_ (.CY f e (Int.ofNat_le.2 w)) ((Kg ..).trans (by rw[e,f,UU];exact(Int.ofNat_sub w).symm)) else .b_ (.a_ (.CF e f (Int.ofNat_lt.2 (Nat.lt_of_not_le w))) (by rw[Nat.sub_eq_zero_of_le (Nat.le_of_not_le w)];rfl))
def Sv.tn(h:Sv r X a):Sv r (A.B7 X zr λx y=>[([CY y x],x),([CF x y],y)]) (a.toNat:Int):=h.B7 .z λx y e f=>
 if w:0<=a then .a_ (.CY f e w) (e.trans (Hr w).symm) else .b_ (.a_ (.CF e f (Int.lt_of_not_ge w)) (f.trans (AO Int.ofNat (Int.toNat_of_nonpos (Int.le_of_lt (Int.lt_of_not_ge w))).symm)))
end
abbrev Pv(r:Nat->Int)(X:List Al):Prop:=∃v,Sv r X v
section
variable{r:Nat->Int}{X Y:List Al}
def PS(h:Pv r X):Pv r (X++Y):=let ⟨v,x,a,b,e⟩:=h;⟨v,x,Fu _ a,b,e⟩
def PT(h:Pv r Y):Pv r (X++Y):=let ⟨v,x,a,b,e⟩:=h;⟨v,x,GN _ a,b,e⟩
def Mz(h:Pv r X)(k:Pv r Y):Pv r (B7 X Y λx Z=>Bu [] x):=let ⟨v,h⟩:=h;let ⟨_,k⟩:=k;⟨v,h.B7 k λZ Z e Z=>.t .nil e⟩
end
noncomputable def ET (n:List Nat)(C:List Int)(j:Nat):Int:=cond (Nat.beq (j % 2) 0) (n.getD (j/2) 0:Nat) (C.getD (j/2) 0)
def UW(r:Nat->Int):∀j,ev (vr j) r=r j:=by
 suffices H:∀j (r:Nat->Int),dot (List.replicate j 0++[1]) r=r j from λj=>(Int.zero_add _).trans (H j r)
 intro j;induction j with
 | zero=>exact λr=>(Int.add_zero _).trans (Int.one_mul _)
 | succ j C=>exact λr=>((AO (· +_) (Int.zero_mul (r 0))).trans (Int.zero_add _)).trans (C _)
def UX(n:List Nat)(C:List Int)(i:Nat):ev (vr (2*i)) (ET n C)=(n.getD i 0:Nat):=by rw[UW,ET,Nat.mul_mod_right,Nat.mul_div_cancel_left i (Nat.le.step .refl)];rfl
def bC(n:List Nat)(C:List Int)(t:TF)(l:Prop):Prop:=
 (Sv (ET n C) t.I.1 (t.den n C).1)->(Sv (ET n C) t.I.2.1 (t.den n C).2.1)->((t.den n C).2.2->Pv (ET n C) t.I.2.2.1)->(¬(t.den n C).2.2->Pv (ET n C) t.I.2.2.2)->l
def Tok(n:List Nat)(C:List Int)(t:TF):Prop:=Ch (bC n C t)
section
variable{ns:List Nat}{is:List Int}{t:TF}(h:Tok ns is t)
include h
def Tok.n:Sv (ET ns is) t.I.1 (t.den ns is).1:=h _ λz Z Z Z=>z
def Tok.i:Sv (ET ns is) t.I.2.1 (t.den ns is).2.1:=h _ λZ z Z Z=>z
def Tok.p:(t.den ns is).2.2->Pv (ET ns is) t.I.2.2.1:=h _ λZ Z z Z=>z
def Tok.q:¬(t.den ns is).2.2->Pv (ET ns is) t.I.2.2.2:=h _ λZ Z Z z=>z
end
def TF.ok(N:List Nat)(C:List Int)(t:TF):Tok N C t:=by
 have f:False->Pv (ET N C) []:=False.elim;have z:¬False->Pv (ET N C) zr:=λZ=>⟨0,.z⟩;induction t with
 | at_ o i=>
  match o with
  | 0=>exact(λZ B=>B (.t .nil (Int.add_zero _)) (.t .nil (Int.add_zero _)) f z)
  | 1=>exact(λZ B=>B (.t .nil (UX ..)) .z f z)
  | k+2=>exact(λZ B=>B .z (.t .nil (by rw[UW,ET,Nat.mul_add_mod,Nat.mul_add_div (Nat.le.step .refl)];rfl)) f z)
 | un o a h=>
  refine h _ λQ H K U=>?_
  match o with
  | 0=>exact(λZ B=>B .z (H.lc .z ((PN ..).trans (Int.zero_sub _))) U (λw=>K (Classical.not_not.1 w)))
  | 1=>exact(λZ B=>B H.tn Q f z)
  | k+2=>exact(λZ B=>B (Q.lc .z (Int.add_zero _)) (H.lc .z (Int.add_zero _)) f z)
 | bi o a b h k=>
  refine h _ λQ H K U=>?_;refine k _ λk1 k2 k3 A=>?_
  match o with
  | 0=>exact(λZ B=>B (Q.lc k1 (UT ..)) (H.lc k2 (UT ..)) (λw=>Q.le k1 (Int.ofNat_le.2 w)) (λw=>Q.gt k1 (Int.ofNat_lt.2 (Nat.lt_of_not_le w))))
  | 1=>exact(λZ B=>B (Q.sb k1) (H.lc k2 (UU ..)) (λw=>Q.lt k1 (Int.ofNat_lt.2 w)) (λw=>Q.ge k1 (Int.ofNat_le.2 (Nat.le_of_not_lt w))))
  | 2=>exact(λZ B=>B ((Lean.Omega.Int.ofNat_min .. :((min _ _:Nat):Int)=_)▸Q.mn k1) (H.mn k2) (λw=>Q.eq k1 (AO _ w)) (λw=>Q.ne k1 λe=>w (Int.ofNat_inj.1 e)))
  | 3=>exact(λZ B=>B ((Lean.Omega.Int.ofNat_max .. :((max _ _:Nat):Int)=_)▸Q.mx k1) (H.mx k2) (λw=>H.le k2 w) (λw=>H.gt k2 (Int.lt_of_not_ge w)))
  | 4=>exact(λZ B=>B .z .z (λw=>H.lt k2 w) (λw=>H.ge k2 (Int.le_of_not_gt w)))
  | 5=>exact(λZ B=>B .z .z (λw=>H.eq k2 w) (λw=>H.ne k2 w))
  | 6=>exact(λZ B=>B .z .z (λw=>Mz (K w.1) (k3 w.2)) (λw=>(Classical.not_and_iff_not_or_not.1 w).elim (λw=>PS (U w)) λw=>PT (A w)))
  | 7=>exact(λZ B=>B .z .z (λw=>w.elim (λw=>PS (K w)) λw=>PT (k3 w)) (λw=>Mz (U λq=>w (.inl q)) (A λq=>w (.inr q))))
  | 8=>exact(λZ B=>B .z .z (λw=>Q.ne k1 λe=>w (Int.ofNat_inj.1 e)) (λw=>Q.eq k1 (AO _ (Classical.not_not.1 w))))
  | 9=>exact(λZ B=>B .z .z (λw=>H.ne k2 w) (λw=>H.eq k2 (Classical.not_not.1 w)))
  | n+10=>exact(λZ B=>B .z .z (λw=>(Classical.em _).elim (λg=>PT (k3 (w g))) λg=>PS (U g)) (λw=>Mz (K (Classical.byContradiction λg=>w λq=>Ad q g)) (A λg=>w λZ=>g)))
def bD{C:List Int}(o:¬(g.den n C).2.2){H:List TF}(a:Hs n C H):Pv (ET n C) (cj g H):=by
 induction H with
 | nil=>exact(TF.ok n C g).q o
 | cons h H X=>exact Mz ((TF.ok n C h).p a.1) (X a.2)
def bG(n:List Nat)(v:List Int):∀f∈PK k,Ok (ET n v) f:=by
 induction k with
 | zero=>exact λZ h=>nomatch h
 | succ k C=>exact λf h=>(Co.1 h).elim (λe=>e▸(by refine(?_:0<=ev (vr _) _);rw[UX];exact Dh _)) (C f)
def Lg{C:List Int}(w:FR k c=true)(h:Hs N C (tk c k)):Fc c 0 N C:=
 Classical.byContradiction λn=>(bD n h).elim λZ s=>s.rec λa m b Z=>bB (EE.1 w a m) λf q=>(Bq.1 q).elim (bG N C f) (b f)
end A
open A
section
variable(c:Nat)(ns:List Nat)(is:List Int)
def Ae(w:FR 0 c=true:=by kernel_rfl):Fc c 0 ns is:=Lg w trivial
def A3(a:Fc c 1 ns is)(w:FR 1 c=true:=by kernel_rfl):Fc c 0 ns is:=Lg w ⟨a,trivial⟩
def AK(a:Fc c 1 ns is)(b:Fc c 2 ns is)(w:FR 2 c=true:=by kernel_rfl):Fc c 0 ns is:=Lg w ⟨b,a,trivial⟩
def CA(a:Fc c 1 ns is)(b:Fc c 2 ns is)(d:Fc c 3 ns is)(w:FR 3 c=true:=by kernel_rfl):Fc c 0 ns is:=Lg w ⟨d,b,a,trivial⟩
def Kj(a:Fc c 1 ns is)(b:Fc c 2 ns is)(d:Fc c 3 ns is)(e:Fc c 4 ns is)(w:FR 4 c=true:=by kernel_rfl):Fc c 0 ns is:=Lg w ⟨e,d,b,a,trivial⟩
def Kk(a:Fc c 1 ns is)(b:Fc c 2 ns is)(d:Fc c 3 ns is)(e:Fc c 4 ns is)(f:Fc c 5 ns is)(w:FR 5 c=true:=by kernel_rfl):Fc c 0 ns is:=Lg w ⟨f,e,d,b,a,trivial⟩
def yd(a:Fc c 1 ns is)(b:Fc c 2 ns is)(d:Fc c 3 ns is)(e:Fc c 4 ns is)(f:Fc c 5 ns is)(g:Fc c 6 ns is)(w:FR 6 c=true:=by kernel_rfl):Fc c 0 ns is:=Lg w ⟨g,f,e,d,b,a,trivial⟩
def ye(a:Fc c 1 ns is)(b:Fc c 2 ns is)(d:Fc c 3 ns is)(e:Fc c 4 ns is)(f:Fc c 5 ns is)(g:Fc c 6 ns is)(h:Fc c 7 ns is)(w:FR 7 c=true:=by kernel_rfl):Fc c 0 ns is:=Lg w ⟨h,g,f,e,d,b,a,trivial⟩
def yf(a:Fc c 1 ns is)(b:Fc c 2 ns is)(d:Fc c 3 ns is)(e:Fc c 4 ns is)(f:Fc c 5 ns is)(g:Fc c 6 ns is)(h:Fc c 7 ns is)(i:Fc c 8 ns is)(w:FR 8 c=true:=by kernel_rfl):Fc c 0 ns is:=Lg w ⟨i,h,g,f,e,d,b,a,trivial⟩
end
def nn{A:Type}{o:Option A}{x:A}(h:o=some x):o≠none:=h▸Option.some_ne_none x
def nO{A:Type}{o:Option A}{x:A}{P:Prop}(p:o=some x)(q:o=none):P:=(Option.some_ne_none x (p.symm.trans q)).elim
def Kl{A:Type}{l:List A}{x:A}:(l++[x]).length=l.length+1:=by rw[CE];rfl
end
local macro_rules
  | `(tactic| rewrite [$t:term]) => `(tactic| first | refine Mine.tr ($t ..) ?_ | fail)
local macro_rules
  | `(tactic| rewrite [← $t:term]) => `(tactic| rewrite [($t ..).symm])
local macro_rules
  | `(tactic| rewrite [$r, $rs,*]) => `(tactic| (rewrite [$r]; rewrite [$rs,*]))
local macro_rules
  | `(tactic| rewrite [$t:term] at $h:ident) => `(tactic| first | replace $h := ($t ..) ▸ $h | fail)
local macro_rules
  | `(tactic| rewrite [← $t:term] at $h:ident) => `(tactic| rewrite [($t ..).symm] at $h:ident)
local macro_rules
  | `(tactic| rewrite [$r, $rs,*] at $h:ident) => `(tactic| (rewrite [$r] at $h:ident; rewrite [$rs,*] at $h:ident))
section
abbrev KY:=List Int×Int×List Int
section
variable{prog:Program}{w:World}
structure bH(prog:Program)(w:World)(h:Heap)(k:KY)(a:Addr)(a1 a2:Addr)(t:Tok):Prop where
 at_:∃o n,h.get? a=some o/\o.cls= .type "tuple"/\o.data= .seq #[.ref a1,.int k.2.1 t,.ref a2] n
 one:IsTupleKey (intKind prog w) h k.1 a1
 two:IsTupleKey (intKind prog w) h k.2.2 a2
def Cy(p:Program)(w:World)(h:Heap)(k:KY)(a:Addr):Prop:=∃A f t,bH p w h k a A f t
def Cy.typeIs{s:Shared}{k:KY}{a:Addr}(x:Cy prog w s.heap k a):s.TypeIs (.ref a) "tuple":=AW x λZ x=>AW x λZ x=>AW x λZ x=>AW x.1 λo w=>AW w λZ w=>⟨o,w.1,w.2.1⟩
def Cy.inj{h:Heap}{a:Addr}{x y:KY}(W:Cy prog w h x a)(O:Cy prog w h y a):x=y:=by
 obtain ⟨a1,a2,t,⟨o,n,U,_,hd⟩,p,q⟩:=W;obtain ⟨r,X,u,⟨V,N,B,_,H⟩,P,Q⟩:=O;obtain rfl:o=V:=BL (U.symm.trans B);rw[hd] at H;simp only[Data.seq.injEq,Array.mk.injEq,List.cons.injEq,Value.ref.injEq,Value.int.injEq,and_true] at H;rcases H with⟨⟨rfl,⟨e,_⟩,rfl⟩,_⟩
 rcases x with⟨c,v,A⟩
 rcases y with⟨Y,R,g⟩
 haveI E:=p.inj P;haveI T:=q.inj Q;simp only at e E T;rw[e,E,T]
def Cy.keeps{es ep}(x:Cy prog w h k a)(U:h.get? d=some o)(hd:o.data= .dict es ep)(y:Heap.SameBut d h r):Cy prog w r k a:=by
 obtain ⟨a1,a2,t,⟨O,n,B,C,H⟩,p,q⟩:=x;haveI Q:a≠d:=by
  intro A;rcases A with rfl
  obtain rfl:O=o:=BL (B.symm.trans U);rw[hd] at H;exact nomatch H
 exact⟨a1,a2,t,⟨O,n,(y.2 a Q).trans B,C,H⟩,p.keeps U hd y,q.keeps U hd y⟩
noncomputable def FT (K:List Int):Int:=reduceHash (Builtin.Tuple.tupleHashOf (K.map hashInt))
noncomputable def PU (k:KY):Int:=reduceHash (Builtin.Tuple.tupleHashOf [FT k.1,hashInt k.2.1,FT k.2.2])
variable{A:Around}{E:Value->Shared->Prop}{s:Shared}
def bI{k:KY}{a:Addr}{Q:Int->Shared->Prop}(B:A.units+1<cLine)(R:Cy prog w s.heap k a)(h:Q (PU k) {s with toks:=s.toks+(k.1.length+k.2.2.length+4)}):
  wpAny (model prog w) A (pyHash (.ref a)) Q E s:=by
 haveI hT:=R.typeIs;obtain ⟨a1,a2,t,⟨o,n,U,_,hd⟩,p,q⟩:=R;refine(?_:wpAny _ _ (pyHashByItsType (.ref a)) Q E s)
 delta pyHashByItsType
 first| refine AR (wpAny_cRoomFor_or (.inr (A3 0x2421005210a02000482 [_,_] [] B)) ?_)| skip
 refine AR (wpAny_specialOf hT F.slot_tuple_hash.lookup ?_);rw[A5 (by rw[beq_builtin_none];exact CW)];refine AR (wpAny_specialOf hT F.slot_tuple_hash.lookup ?_);refine AR (wpAny_callSpecialIfBoundUnlessNone?_slot hT F.slot_tuple_hash (wpAny_call_entry F.slot_tuple_hash hT F.entry_tuple_hash ?_ (F.args_tuple_hash_1 _)));refine(?_:wpAny _ _ (Builtin.Tuple.tupleItemsOf (.ref a)>>= _) _ _ s);refine AR (wpAny_tupleItemsOf U hd ?_);refine AR ?_;rw[<-Array.forIn_toList];refine AR (AR (wpAny_pyHash_tuple B p ?_));refine An (AR (AR (wpAny_pyHash_int (An (AR (AR (wpAny_pyHash_tuple B q (An (An ?_)))))))));refine(?_:wpAny _ _ (retInt (Builtin.Tuple.tupleHashOf [FT k.1,hashInt k.2.1,FT k.2.2])) _ _ _);refine wpAny_ret_mkInt ?_;refine(?_:wpAny _ _ (if(decide (-(2:Int)^63<=Builtin.Tuple.tupleHashOf [FT k.1,hashInt k.2.1,FT k.2.2])&&decide (Builtin.Tuple.tupleHashOf [FT k.1,hashInt k.2.1,FT k.2.2]<2^63))=true then _ else _) Q E _);haveI e:({s with toks:=s.toks+(k.1.length+1)+1+(k.2.2.length+1)+1}:Shared)={s with toks:=s.toks+(k.1.length+k.2.2.length+4)}:=by congr 1;exact Ae 0x14841008104210050102101008280810808021004c3 [_,_,_] []
 unfold PU reduceHash at h;by_cases H:(decide (-(2:Int)^63<=Builtin.Tuple.tupleHashOf [FT k.1,hashInt k.2.1,FT k.2.2])&&decide (Builtin.Tuple.tupleHashOf [FT k.1,hashInt k.2.1,FT k.2.2]<2^63))=true
 ·rw[A6 H];rw[A6 H] at h;refine An ?_;rw[e];exact h
 ·rw[A5 H];rw[A5 H] at h;refine AR (wpAny_rule (An ?_));rw[e];exact h
def bJ(H:A.units<cLine)(c:Cy prog w s.heap x a)(Q:Cy prog w s.heap y b)(h:P (.done (.ret (.bool (decide (x=y))))) s):
  wpAny (model prog w) A (Builtin.«tuple.__eq__» ⟨[.ref a,.ref b],[]⟩) P E s:=by
 haveI j:=Q.typeIs;obtain ⟨X,v,B⟩:=x;obtain ⟨A0,O,Y⟩:=y;obtain ⟨a1,a2,t,⟨o,na,I,_,C⟩,p,F⟩:=c;obtain ⟨n,V,u,⟨S,nb,L,_,M⟩,W,U⟩:=Q;refine(?_:wpAny _ _ (isInstance (.ref b) (.type "tuple")>>= _) _ _ s);refine AR (wpAny_isInstance j isSubtype_tuple_tuple ?_);dsimp only[Bool.not_true,Bool.false_eq_true,if_false];refine AR (wpAny_tupleItemsOf I C ?_);refine AR (wpAny_tupleItemsOf L M ?_);refine AR ?_;simp only[List.zip_cons_cons,List.zip_nil_left,List.forIn_cons,List.forIn_nil];by_cases K:X=A0
 ·subst K;refine AR (AR (wpAny_eqBool_tuple H p W ?_));rw[Bg rfl];refine An (AR (AR (wpAny_eqBool_int ?_)));by_cases R:v=O
  ·subst R;rw[beq_self_eq_true];refine An (AR (AR (wpAny_eqBool_tuple H F U ?_)));by_cases T:B=Y
   ·subst T;rw[Bg rfl];refine An (An ?_);rw[Bg rfl] at h;exact An h
   ·haveI e:decide (B=Y)=false:=C0 T;haveI f:decide ((X,v,B)=(X,v,Y))=false:=by simp[T]
    rw[f] at h;refine(e).symm▸?_;exact AR (An (An (An (An h))))
  ·haveI e:(v==O)=false:=C0 R;haveI f:decide ((X,v,B)=(X,O,Y))=false:=by simp[R]
   rw[f] at h;refine(e).symm▸?_;exact AR (An (An (An (An h))))
 ·have e:decide (X=A0)=false:=C0 K;have f:decide ((X,v,B)=(A0,O,Y))=false:=by simp[K]
  rw[f] at h;refine AR (AR (wpAny_eqBool_tuple H p W ?_));refine(e).symm▸?_;exact AR (An (An (An (An h))))
def bK(B:A.units+1<cLine)(H:Cy prog w s.heap x a)(O:Cy prog w s.heap y b)(h:Q (decide (x=y)) s):
  wpAny (model prog w) A (eqBool (.ref a) (.ref b)) Q E s:=by
 unfold eqBool
 try with_reducible refine ER ?_
 refine(?_:wpAny _ _ (if(Value.ref a==Value.ref b)=true then _ else _) Q E s);by_cases G:(Value.ref a==Value.ref b)=true
 ·rw[A6 G];haveI e:a=b:=by haveI:=CQ G;injection this
  subst e;obtain rfl:=H.inj O;exact AR (wpAny_rule (An (by simpa using h)))
 ·rw[A5 G];exact AR (wpAny_richCompare_same_room (op:=.Eq) H.typeIs O.typeIs F.slot_tuple_eq
   (wpAny_call_entry F.slot_tuple_eq H.typeIs F.entry_tuple_eq (bJ B H O ⟨_,rfl,(λe=>nomatch e),FQ h⟩) (F.args_tuple_eq_2 _ _)) (A3 0x2421005210a02000482 [_,_] [] B))
def UY{K:List Int}{a:Addr}{n:Nat}{Q:Bool->Shared->Prop}(R:IsTupleKey (intKind prog w) s.heap K a)(h:Q true s):wpAny (model prog w) A (eqIsQuiet (n+1) (.ref a)) Q E s:=by
 have hT:=R.typeIs;obtain ⟨o,items,n,U,_,hd,C⟩:=R;unfold eqIsQuiet;refine AR (wpAny_specialOf hT F.slot_tuple_eq.lookup ?_);refine AR (wpAny_isInstance hT isSubtype_tuple_tuple ?_);dsimp only[Bool.not_true,Bool.false_eq_true,if_false];refine AR (wpAny_seqItems U hd ?_);refine AR ?_;rw[<-Array.forIn_toList];refine wpAny_forIn_list _ (λG r s'=>r.1=none/\s'=s/\∀v∈G,carriedByValue v=true) _ ?_ ?_ _ _ ⟨rfl,rfl,C.byValue⟩
 ·intro v G r s' f;rcases f with⟨H,rfl,g⟩
  refine(eqIsQuiet_byValue _ (g v Dt)).symm▸?_;refine AR (An ?_);simp only[Bool.not_true,Bool.false_eq_true,if_false];exact An ⟨rfl,rfl,λu B=>g u (GO _ B)⟩
 ·intro I s' M;rcases I with⟨r1,r2⟩
  obtain ⟨H,rfl,_⟩:=M;simp only at H;subst H;exact An h
def bL(H:Cy prog w s.heap k a)(h:Q true s):wpAny (model prog w) A (eqIsQuiet 8 (.ref a)) Q E s:=by
 haveI hT:=H.typeIs;obtain ⟨a1,a2,t,⟨o,n,U,_,hd⟩,p,q⟩:=H;unfold eqIsQuiet;refine AR (wpAny_specialOf hT F.slot_tuple_eq.lookup ?_);refine AR (wpAny_isInstance hT isSubtype_tuple_tuple ?_);dsimp only[Bool.not_true,Bool.false_eq_true,if_false];refine AR (wpAny_seqItems U hd ?_);refine AR ?_;refine(?_:wpAny _ _ (forIn #[Value.ref a1,Value.int k.2.1 t,Value.ref a2] _ _) _ _ s);rw[<-Array.forIn_toList];simp only[List.forIn_cons,List.forIn_nil];refine AR (AR (UY p ?_));refine An (AR (AR ?_));rw[eqIsQuiet_byValue _ rfl];refine An (An (AR (AR (UY q (An (An ?_))))));exact An h
end
noncomputable def HG (p:Program)(w:World):HeapKind p w KY where
 is:=Cy p w
 hash:=PU
 draws:=λk=>k.1.length+k.2.2.length+4
 room:=λA=>A.units+1<cLine
 inj:=λW O=>W.inj O
 keeps:=λx U hd y=>x.keeps U hd y
 pyHash:=λB H h=>bI B H h
 eqBool:=λB W O h=>bK B W O h
 quiet:=λH h=>bL H h
set_option genInjectivity true in
set_option genCtorIdx true in
inductive AV where
 | none
 | bool (b:Bool)
 | int (i:Int)
 | bytes (l:List Int)
 | AA (l:List AV)
 | obj (a:Addr)
 deriving Inhabited
structure AH where
 cls:Addr->Option Addr
 A4:Addr->Nat->Option AV
 A1:Addr->Option (List AV)
 set:Addr->Option (List Int)
 AL:Addr->Option (List (Int×AV))
 AZ:Addr->Option (List (KY×AV))
 ro:Addr->Option (List Int)
namespace AH
def fresh(S:AH)(a:Addr):Prop:=S.cls a=none/\S.A1 a=none/\S.set a=none/\S.AL a=none/\S.AZ a=none
noncomputable def uL (S:AH)(a:Addr)(l:List AV):AH:={S with A1:=λb=>if b=a then some l else S.A1 b}
noncomputable def uS (S:AH)(a:Addr)(l:List Int):AH:={S with set:=λb=>if b=a then some l else S.set b}
noncomputable def uI (σ:AH)(a:Addr)(l:List (Int×AV)):AH:={σ with AL:=λb=>if b=a then some l else σ.AL b}
noncomputable def uT (σ:AH)(a:Addr)(l:List (KY×AV)):AH:={σ with AZ:=λb=>if b=a then some l else σ.AZ b}
noncomputable def uF (σ:AH)(a:Addr)(f:Nat)(v:AV):AH:={σ with A4:=λb g=>if b=a/\g=f then some v else σ.A4 b g}
noncomputable def uN (S:AH)(a c:Addr):AH:={S with cls:=λb=>if b=a then some c else S.cls b,A4:=λb g=>if b=a then none else S.A4 b g}
end AH
def IsT(h:Heap)(a:Addr)(C:Array Value)(n:Nat):Prop:=∃o,h.get? a=some o/\o.cls= .type "tuple"/\o.data= .seq C n
def IsT.AA{h:Heap}{a:Addr}{C:Array Value}{n:Nat}(x:IsT h a C n):∃o,h.get? a=some o/\o.cls= .type "tuple"/\∃n,o.data= .seq C n:=let ⟨o,a,b,c⟩:=x;⟨o,a,b,n,c⟩
abbrev yg(h:Heap)(a:Addr)(e:Array DictEntry)(n:Nat):Prop:=h.get? a=some {cls:=.type "dict",dict:=none,data:=.dict e n,slots:= #[]}
mutual
inductive AF(h:Heap):AV->Value->Prop
 | none:AF h .none .none
 | bool (b:Bool):AF h (.bool b) (.bool b)
 | int (i:Int) (t:Tok):AF h (.int i) (.int i t)
 | bytes {l:List Int} {b:Array UInt8} (t:Tok):b.toList.map (λx=>(x.toNat:Int))=l->AF h (.bytes l) (.bytes b t)
 | AA {l:List AV} {a:Addr} {vs:List Value} {n:Nat}:IsT h a vs.toArray n->Af h l vs->AF h (.AA l) (.ref a)
 | obj (a:Addr):AF h (.obj a) (.ref a)
inductive Af(h:Heap):List AV->List Value->Prop
 | nil:Af h [] []
 | cons {v:AV} {cv:Value} {l:List AV} {vs:List Value}:AF h v cv->Af h l vs->Af h (v::l) (cv::vs)
end
section
variable{h h':Heap}
def Af.length:Af h l V->V.length=l.length:=by
 intro x;induction l generalizing V with
 | nil=>cases x;rfl
 | cons v l C=>cases x with| cons a b=>simp[C b]
def BM(h H:Heap):Prop:=∀a o v n,h.get? a=some o->o.cls= .type "tuple"->o.data= .seq v n->H.get? a=some o
mutual
theorem AF.mono(k:BM h h')(x:AF h v c):AF h' v c:=by
 cases x with
 | none=>exact .none
 | bool b=>exact .bool b
 | int i t=>exact .int i t
 | bytes t e=>exact .bytes t e
 | AA a b=>obtain ⟨o,p,q,w⟩:=a;exact .AA ⟨o,k _ _ _ _ p q w,q,w⟩ (b.mono k)
 | obj a=>exact .obj a
theorem Af.mono(k:BM h h')(x:Af h l v):Af h' l v:=by
 cases x with
 | nil=>exact .nil
 | cons a b=>exact .cons (a.mono k) (b.mono k)
end
def Af.append{L D:List AV}{V W:List Value}(x:Af h L V)(y:Af h D W):Af h (L++D) (V++W):=by
 induction L generalizing V with
 | nil=>cases x;exact y
 | cons v l C=>cases x with| cons a b=>exact .cons a (C b)
def Af.get{l:List AV}{V:List Value}(x:Af h l V){i:Nat}{v:AV}(e:l[i]?=some v):∃I,V[i]?=some I/\AF h v I:=by
 induction l generalizing V i with
 | nil=>simp at e
 | cons w l C=>
  cases x with
  | cons a b=>
   cases i with
   | zero=>simp at e;subst e;exact⟨_,by exact rfl,a⟩
   | succ i=>simp at e;refine AJ (C b e) λI c d=>?_;exact⟨I,by exact c,d⟩
def Af.set(x:Af h l V)(i:Nat)(y:AF h v c):Af h (l.set i v) (V.set i c):=by
 induction l generalizing V i with
 | nil=>cases x;exact .nil
 | cons w l C=>
  cases x with
  | cons a b=>
   cases i with
   | zero=>exact .cons y b
   | succ i=>exact .cons a (C b i)
def Af.take(x:Af h l v)(i:Nat):Af h (l.take i) (v.take i):=by
 induction l generalizing v i with
 | nil=>cases x;simp;exact .nil
 | cons w l C=>
  cases x with
  | cons a b=>
   cases i with
   | zero=>exact .nil
   | succ i=>exact .cons a (C b i)
def Af.drop(x:Af h l v)(i:Nat):Af h (l.drop i) (v.drop i):=by
 induction l generalizing v i with
 | nil=>cases x;simp;exact .nil
 | cons w l C=>
  cases x with
  | cons a b=>
   cases i with
   | zero=>exact .cons a b
   | succ i=>exact C b i
def Af.split{L D:List AV}(x:Af h (L++D) V):∃K W,V=K++W/\Af h L K/\Af h D W:=by
 induction L generalizing V with
 | nil=>exact⟨[],V,rfl,.nil,x⟩
 | cons v l C=>cases x with| cons a b=>refine C2 (C b) λp q A c d=>?_;subst A;exact⟨_::p,q,rfl,.cons a c,d⟩
def Af.reverse(x:Af h l V):Af h l.reverse V.reverse:=by
 induction l generalizing V with
 | nil=>cases x;exact .nil
 | cons v l C=>cases x with| cons a b=>simp only[List.reverse_cons];exact(C b).append (.cons a .nil)
end
noncomputable def CJ:List Str:=["marked","op","out","arg","low","high","is_folded","is_last",
 "insts","start","start_loose","is_reversed","is_anchored_start","is_anchored_end","is_flat","heads","prefix","is_prefix_folded","byte_cuts",
 "number","flag","ids","ways","items","met","prog","kind","kept","cuts","most_states","pace","states","starts","flushes","dead","full",
 "octets","masks","dense","spots","values","size","captures","text","begin","end","is_loose","is_whole","width","scan","many","is_longest","best"].map Str.ofString
noncomputable def HH:List Addr:=[132,189,217,266,301,479,540,596,624,773,801]
noncomputable def EU (c:Addr)(f:Nat):Bool:=!(c==132&&f==28)
def FU (h:Heap):Option AV->Option Value->Prop
 | none,none=>True
 | some v,some c=>AF h v c
 | _,_=>False
def FU.mono{h H:Heap}(k:BM h H)(x:FU h v c):FU H v c:=by
 cases v<;>cases c<;>first| exact x| exact AF.mono k x
def UZ(h:Heap)(f:Nat->Option AV)(m:Str->Option Value):Prop:=
 (∀i x,CJ[i]?=some x->FU h (f i) (m x))/\∀x,x∉CJ->m x=none
inductive Cq(h:Heap):List (Int×AV)->List (Int×Value)->Prop
 | nil:Cq h [] []
 | cons {k:Int} {v:AV} {cv:Value} {l:List (Int×AV)} {vs:List (Int×Value)}:AF h v cv->Cq h l vs->Cq h ((k,v)::l) ((k,cv)::vs)
def Cq.mono{h H:Heap}(k:BM h H)(x:Cq h l v):Cq H l v:=by
 induction x with
 | nil=>exact .nil
 | cons a _ C=>exact .cons (a.mono k) C
inductive Du(h:Heap):List (KY×AV)->List (KY×Addr×Value)->Prop
 | nil:Du h [] []
 | cons {k:KY} {v:AV} {a:Addr} {cv:Value} {l:List (KY×AV)} {vs:List (KY×Addr×Value)}:AF h v cv->Du h l vs->Du h ((k,v)::l) ((k,a,cv)::vs)
def Du.mono{h H:Heap}(k:BM h H)(x:Du h l v):Du H l v:=by
 induction x with
 | nil=>exact .nil
 | cons a _ C=>exact .cons (a.mono k) C
def Ub{p:Program}{w:World}{h H:Heap}(k:BM h H){K:List Int}{a:Addr}(x:IsTupleKey (intKind p w) h K a):IsTupleKey (intKind p w) H K a:=
 AW x λo x=>AW x λC x=>AW x λn w=>⟨o,C,n,k _ _ _ _ w.1 w.2.1 w.2.2.1,w.2.1,w.2.2.1,w.2.2.2⟩
def Cy.mono{h H:Heap}(k:BM h H)(x:Cy p w h y a):Cy p w H y a:=
 AW x λA x=>AW x λf x=>AW x λt x=>AW x.at_ λo w=>AW w λn w=>⟨A,f,t,⟨o,n,k _ _ _ _ w.1 w.2.1 w.2.2,w.2.1,w.2.2⟩,Ub k x.one,Ub k x.two⟩
def B2(S:AH)(D:Addr->Addr)(b:Addr):Prop:=
 S.cls b≠none\/(∃a,S.cls a≠none/\D a=b)\/S.A1 b≠none\/S.set b≠none\/S.AL b≠none\/S.AZ b≠none
structure Av where
 prog:Program
 w:World
 h0:Heap
 big:∃b o,h0.get? b=some o/\sysModules<b
def bM(B:Av)(D:Addr->Addr)(S:AH)(h:Heap)(p:Prop):Prop:=
 (∀b o,B.h0.get? b=some o->h.get? b=some o)->(∀a c,S.cls a=some c->h.get? a=some (instObj c (D a))/\∃m,h.Ns1 (D a) m/\UZ h (S.A4 a) m)->(∀a c,S.cls a=some c->c∈HH/\∀i,S.A4 a i≠none->EU c i=true)->(∀a i,S.A4 a i≠none->S.cls a≠none)->(∀a l,S.A1 a=some l->∃v n,IsL h a (List.toArray v) n/\Af h l v)->(∀a l,S.set a=some l->l.Nodup/\h.SetOf (intKind B.prog B.w) a (λk=>decide (k∈l)) l.length)->(∀a l,S.AL a=some l->∃K,h.DictOf (intKind B.prog B.w) a K/\Cq h l K)->(∀a l,S.AZ a=some l->∃x,h.DictOfH (HG B.prog B.w) a x/\Du h l x)->(∀b,B2 S D b->B.h0.get? b=none)->(∀a b,S.cls a≠none->S.cls b≠none->D a=D b->a=b)->(∀a,S.cls a≠none->S.AL (D a)=none/\S.AZ (D a)=none)->(∀a,S.AL a≠none->S.AZ a=none)->(∀b,S.AL b≠none\/S.AZ b≠none->b≠sysModules)->(∀a l,S.ro a=some l->∃v n,IsL B.h0 a (List.toArray v) n/\Af B.h0 (l.map .int) v)->p
def AB(B:Av)(D:Addr->Addr)(S:AH)(h:Heap):Prop:=Ch (bM B D S h)
section
variable(zh:AB B D σ h)
def AB.Ao:=zh _ λz Z Z Z Z Z Z Z Z Z Z Z Z Z=>z
def AB.inst:=zh _ λZ z Z Z Z Z Z Z Z Z Z Z Z Z=>z
def AB.EF:=zh _ λZ Z z Z Z Z Z Z Z Z Z Z Z Z=>z
def AB.Jl:=zh _ λZ Z Z z Z Z Z Z Z Z Z Z Z Z=>z
def AB.A1:=zh _ λZ Z Z Z z Z Z Z Z Z Z Z Z Z=>z
def AB.set:=zh _ λZ Z Z Z Z z Z Z Z Z Z Z Z Z=>z
def AB.AL:=zh _ λZ Z Z Z Z Z z Z Z Z Z Z Z Z=>z
def AB.AZ:=zh _ λZ Z Z Z Z Z Z z Z Z Z Z Z Z=>z
def AB.Fz:=zh _ λZ Z Z Z Z Z Z Z z Z Z Z Z Z=>z
def AB.Iq:=zh _ λZ Z Z Z Z Z Z Z Z z Z Z Z Z=>z
def AB.HI:=zh _ λZ Z Z Z Z Z Z Z Z Z z Z Z Z=>z
def AB.apart:=zh _ λZ Z Z Z Z Z Z Z Z Z Z z Z Z=>z
def AB.HJ:=zh _ λZ Z Z Z Z Z Z Z Z Z Z Z z Z=>z
def AB.Ir:=zh _ λZ Z Z Z Z Z Z Z Z Z Z Z Z z=>z
end
def bO(S:AH)(D:Addr->Addr)(s:Shared)(E:AH)(d:Addr->Addr)(s':Shared)(l:Prop):Prop:=
 (∀b o,s.heap.get? b=some o->¬B2 S D b->s'.heap.get? b=some o)->(∀b,B2 E d b->B2 S D b\/s.heap.get? b=none)->(s'.gens=s.gens)->(s'.os=s.os)->l
def Ext(S:AH)(D:Addr->Addr)(s:Shared)(E:AH)(d:Addr->Addr)(s':Shared):Prop:=Ch (bO S D s E d s')
section
variable(zh:Ext σ D s Aq D' s')
def Ext.Ao:=zh _ λz Z Z Z=>z
def Ext.own:=zh _ λZ z Z Z=>z
def Ext.gens:=zh _ λZ Z z Z=>z
def Ext.os:=zh _ λZ Z Z z=>z
end
def Ext.refl(S:AH)(D:Addr->Addr)(s:Shared):Ext S D s S D s:=(λZ B=>B (λZ Z e Z=>e) (λZ h=>.inl h) rfl rfl)
def Ext.trans{S t M:AH}(x:Ext S D s t d Q)(y:Ext t d Q M v w):Ext S D s M v w:=λZ B=>B
  (λb o e n=>y.Ao b o (x.Ao b o e n) λh=>(x.own b h).elim n λq=>by exact nO e q)
  (λb h=>(y.own b h).elim (x.own b) λq=>by
   cases e:s.heap.get? b with
   | none=>exact .inr rfl
   | some o=>
    by_cases n:B2 S D b
    ·exact .inl n
    ·exact nO (x.Ao b o e n) q)
  (y.gens.trans x.gens)
  (y.os.trans x.os)
section
variable{B:Av}{D:Addr->Addr}{σ:AH}{h h':Heap}
def CD{A:Type}{x:Option A}(q:x≠none):∃y,x=some y:=Option.ne_none_iff_exists'.mp q
def AB.Uc(R:AB B D σ h){a:Addr}{O:Obj}{v:Array Value}{n:Nat}(x:h.get? a=some O)(y:O.cls= .type "tuple")(X:O.data= .seq v n):¬B2 σ D a:=by
 rintro (q| ⟨b,q,rfl⟩| q| q| q| q)<;>refine AW (CD q) λc e=>?_
 ·have:=(R.inst _ _ e).1;rw[x] at this;cases this;cases X
 ·refine F3 (R.inst _ _ e) λZ m A Z=>?_;obtain ⟨o,l,E,H,hd,_⟩:=A;rw[x] at H;cases H;rw[X] at hd;cases hd
 ·refine B9 (R.A1 _ _ e) λZ Z e Z=>?_;rw[IsL,x] at e;cases e;simp at y
 ·refine Ac (λZ A=>?_) (R.set _ _ e);obtain ⟨o,l,E,t,H,_,hd,_⟩:=A;rw[x] at H;cases H;rw[X] at hd;cases hd
 ·refine AJ (R.AL _ _ e) λZ A Z=>?_;obtain ⟨o,l,E,H,_,hd,_⟩:=A;rw[x] at H;cases H;rw[X] at hd;cases hd
 ·refine AJ (R.AZ _ _ e) λZ A Z=>?_;obtain ⟨o,l,E,H,_,hd,_⟩:=A;rw[x] at H;cases H;rw[X] at hd;cases hd
def AB.at_(R:AB B D σ h){a:Addr}(x:B2 σ D a):∃o,h.get? a=some o:=by
 rcases x with q| ⟨b,q,rfl⟩| q| q| q| q<;>refine AW (CD q) λc e=>?_
 ·exact⟨_,(R.inst _ _ e).1⟩
 ·refine F3 (R.inst _ _ e) λZ m A Z=>?_;obtain ⟨o,l,E,H,hd,_⟩:=A;exact⟨o,H⟩
 ·refine B9 (R.A1 _ _ e) λZ Z e Z=>?_;exact⟨_,e⟩
 ·refine Ac (λZ A=>?_) (R.set _ _ e);obtain ⟨o,l,E,t,H,_,hd,_⟩:=A;exact⟨_,H⟩
 ·refine AJ (R.AL _ _ e) λZ A Z=>?_;obtain ⟨o,l,E,H,_,hd,_⟩:=A;exact⟨_,H⟩
 ·refine AJ (R.AZ _ _ e) λZ A Z=>?_;obtain ⟨o,l,E,H,_,hd,_⟩:=A;exact⟨_,H⟩
def AB.size(R:AB B D σ h):sysModules<h.objs.size:=by
 refine B9 B.big λb o e l=>?_;exact Nat.lt_trans l (Cm (R.Ao b o e))
def AB.PV(R:AB B D σ h):h.objs.size≠sysModules:=Nat.ne_of_gt R.size
def AB.lt(R:AB B D σ h){a:Addr}(x:B2 σ D a):a<h.objs.size:=Cm (R.at_ x).choose_spec
def AB.DI(R:AB B D σ h)(e:s.heap=h)(x:Ext σ D s S l s'):BM h s'.heap:=
 λa Z Z Z q c d=>x.Ao a _ (e▸q) (R.Uc q c d)
def AB.but(R:AB B D σ h){P:Addr->Prop}(k:∀b o,¬P b->h.get? b=some o->h'.get? b=some o)(N:∀b,P b->¬B2 σ D b)(F:∀b,P b->B.h0.get? b=none)(T:∀b o V n,P b->h.get? b=some o->o.cls= .type "tuple"->o.data= .seq V n->False):AB B D σ h':=by
 have f:BM h h':=λa o V n q c d=>k a _ (λp=>T a o V n p q c d) q;have K:∀b o,B2 σ D b->h.get? b=some o->h'.get? b=some o:=λb o x e=>k b o (λp=>N b p x) e;haveI O:∀{a c},σ.cls a=some c->B2 σ D a:=λe=>.inl (nn e);haveI g:∀{a c},σ.cls a=some c->B2 σ D (D a):=λ{a} {c} e=>.inr (.inl ⟨a,by exact nn e,rfl⟩);refine(λZ I=>I (λb o e=>k b o (λp=>by exact nO e (F b p)) (R.Ao b o e)) (λa c e=>?_) R.EF R.Jl (λa l e=>?_) (λa l e=>?_) (λa l e=>?_) (λa l e=>?_) R.Fz R.Iq R.HI R.apart R.HJ R.Ir)
 ·refine F3 (R.inst a c e) λp m A Q=>?_;obtain ⟨o,v,E,H,r⟩:=A;obtain ⟨f1,f2⟩:=Q;exact⟨K _ _ (O e) p,m,⟨o,v,E,K _ _ (g e) H,r⟩,λi x q=>(f1 i x q).mono f,f2⟩
 ·refine B9 (R.A1 a l e) λV n p q=>?_;exact⟨V,n,K _ _ (.inr (.inr (.inl (nn e)))) p,q.mono f⟩
 ·refine Ac (λp A=>?_) (R.set a l e);obtain ⟨o,v,E,t,H,r⟩:=A;exact⟨p,o,v,E,t,K _ _ (.inr (.inr (.inr (.inl (nn e))))) H,r⟩
 ·refine AJ (R.AL a l e) λY A q=>?_;obtain ⟨o,v,E,H,r⟩:=A;exact⟨Y,⟨o,v,E,K _ _ (.inr (.inr (.inr (.inr (.inl (nn e)))))) H,r⟩,q.mono f⟩
 ·refine AJ (R.AZ a l e) λX A q=>?_;obtain ⟨o,v,E,H,r1,r2,r3,G,M⟩:=A;refine⟨X,⟨o,v,E,K _ _ (.inr (.inr (.inr (.inr (.inr (nn e)))))) H,r1,r2,r3,λx W=>?_,M⟩,q.mono f⟩;exact Cy.mono f (G x W)
def AB.grow(R:AB B D σ h)(k:∀b o,h.get? b=some o->h'.get? b=some o):AB B D σ h':=
 R.but (P:=λZ=>False) (λb o Z=>k b o) (λZ x=>x.elim) (λZ x=>x.elim) λZ Z Z Z x=>x.elim
end
section
variable{B:Av}{D:Addr->Addr}{σ Aq:AH}{h h':Heap}{a:Addr}
def AB.N0(R:AB B D σ h)(e:σ.cls b=some c)(H:h.get? a=some o)(hd:o.data≠.plain):b≠a:=by
 rintro rfl;rw[(R.inst _ _ e).1] at H;cases H;exact hd rfl
def AB.bP(R:AB B D σ h)(e:σ.cls b=some c)(U:h.get? a=some o)(hd:∀E n,o.data≠.dict E n):D b≠a:=by
 intro A;rcases A with rfl
 refine F3 (R.inst _ _ e) λZ m I Z=>?_;obtain ⟨O,E,p,H,x,_⟩:=I;rw[U] at H;cases H;exact hd _ _ x
def AB.modify(R:AB B D σ h)(k:Heap.ExtBut a h h')(A0:∀b,σ.cls b≠none->b≠a/\D b≠a)(F:B.h0.get? a=none)(nt:∀o v n,h.get? a=some o->o.cls= .type "tuple"->o.data= .seq v n->False)(f:Aq.cls=σ.cls)(C:Aq.A4=σ.A4)(Q:Aq.ro=σ.ro)(j:∀b,b≠a->Aq.A1 b=σ.A1 b)(w:∀b,b≠a->Aq.set b=σ.set b)(T:∀b,b≠a->Aq.AL b=σ.AL b)(y:∀b,b≠a->Aq.AZ b=σ.AZ b)(V:∀l,Aq.A1 a=some l->∃v n,IsL h' a (List.toArray v) n/\Af h l v)(I:∀l,Aq.set a=some l->l.Nodup/\h'.SetOf (intKind B.prog B.w) a (λk=>decide (k∈l)) l.length)(W:∀l,Aq.AL a=some l->∃Y,h'.DictOf (intKind B.prog B.w) a Y/\Cq h l Y)(G:∀l,Aq.AZ a=some l->∃X,h'.DictOfH (HG B.prog B.w) a X/\Du h l X)(P:Aq.AL a≠none->Aq.AZ a=none)(O:Aq.AL a≠none\/Aq.AZ a≠none->a≠sysModules):AB B D Aq h'/\BM h h':=by
 have K:BM h h':=λb o v n q c d=>k b o (λe=>nt o v n (e▸q) c d) q;refine⟨(λZ zK=>zK (λb o e=>k b o (λp=>by exact nO e (p▸F)) (R.Ao b o e)) (λb c e=>?_) (by rw[f,C];exact R.EF) (by rw[f,C];exact R.Jl) (λb l e=>?_) (λb l e=>?_) (λb l e=>?_) (λb l e=>?_) (λb q=>?_) ?_ (λb q=>?_) (λb q=>?_) (λb q=>?_) (by rw[Q];exact R.Ir)),K⟩
 ·have e:=(f)▸e;refine F3 (R.inst b c e) λp m A G0=>?_;obtain ⟨o,w,E,H,r⟩:=A;obtain ⟨f1,f2⟩:=G0;refine Ac (λN M=>?_) (A0 b (nn e));exact⟨k _ _ N p,m,⟨o,w,E,k _ _ M H,r⟩,λi x q=>by rw[C];exact(f1 i x q).mono K,f2⟩
 ·by_cases q:b=a
  ·subst q;refine B9 (V l e) λv n p r=>?_;exact⟨v,n,p,r.mono K⟩
  ·rw[j b q] at e;refine B9 (R.A1 b l e) λv n p r=>?_;exact⟨v,n,k _ _ q p,r.mono K⟩
 ·by_cases q:b=a
  ·subst q;exact I l e
  ·rw[w b q] at e;refine Ac (λp A=>?_) (R.set b l e);obtain ⟨o,g,E,t,H,r⟩:=A;exact⟨p,o,g,E,t,k _ _ q H,r⟩
 ·by_cases q:b=a
  ·subst q;refine AJ (W l e) λv p r=>?_;exact⟨v,p,r.mono K⟩
  ·rw[T b q] at e;refine AJ (R.AL b l e) λY A z=>?_;obtain ⟨o,g,E,H,r⟩:=A;exact⟨Y,⟨o,g,E,k _ _ q H,r⟩,z.mono K⟩
 ·by_cases q:b=a
  ·subst q;refine AJ (G l e) λX p r=>?_;exact⟨X,p,r.mono K⟩
  ·haveI e:=(y b q)▸e;refine AJ (R.AZ b l e) λX A z=>?_;obtain ⟨o,g,E,H,r1,r2,r3,S,U⟩:=A;exact⟨X,⟨o,g,E,k _ _ q H,r1,r2,r3,λx L=>Cy.mono K (S x L),U⟩,z.mono K⟩
 ·by_cases e:b=a
  ·subst e;exact F
  ·refine R.Fz b ?_;unfold B2 at q⊢;rw[f,j b e,w b e,T b e,y b e] at q;exact q
 ·rw[f];exact R.Iq
 ·rw[f] at q;haveI:=A0 b q;rw[T _ this.2,y _ this.2];exact R.HI b q
 ·by_cases e:b=a
  ·subst e;exact P q
  ·rw[T b e] at q;rw[y b e];exact R.apart b q
 ·by_cases e:b=a
  ·subst e;exact O q
  ·rw[T b e,y b e] at q;exact R.HJ b q
def AB.Ud(R:AB B D σ h)(H:h.get? a=some o)(Q:o.data≠.plain)(l:∀E n,o.data≠.dict E n):∀b,σ.cls b≠none->b≠a/\D b≠a:=λb q=>by
 refine AW (CD q) λc e=>?_;exact⟨R.N0 e H Q,R.bP e H l⟩
def AB.PW(R:AB B D σ h)(e:σ.A1 a=some l):σ.set a=none/\σ.AL a=none/\σ.AZ a=none:=by
 refine B9 (R.A1 a l e) λv n p Z=>?_;refine⟨?_,?_,?_⟩
 ·by_cases q:σ.set a=none;exact q;refine AW (CD q) λL E=>?_;refine Ac (λZ A=>?_) (R.set _ _ E);obtain ⟨o,m,r,t,H,_,hd,_⟩:=A;rw[IsL,H] at p;cases p;cases hd
 ·by_cases q:σ.AL a=none;exact q;refine AW (CD q) λL E=>?_;refine AJ (R.AL _ _ E) λZ A Z=>?_;obtain ⟨o,m,r,H,_,hd,_⟩:=A;rw[IsL,H] at p;cases p;cases hd
 ·by_cases q:σ.AZ a=none;exact q;refine AW (CD q) λL E=>?_;refine AJ (R.AZ _ _ E) λZ A Z=>?_;obtain ⟨o,m,r,H,_,hd,_⟩:=A;rw[IsL,H] at p;cases p;cases hd
def AB.Ue(R:AB B D σ h)(e:σ.set a=some l):σ.A1 a=none/\σ.AL a=none/\σ.AZ a=none:=by
 refine Ac (λZ A=>?_) (R.set _ _ e);obtain ⟨o,m,p,t,U,_,hd,_⟩:=A;refine⟨?_,?_,?_⟩
 ·by_cases q:σ.A1 a=none;exact q;refine AW (CD q) λL E=>?_;haveI:=R.PW E;rw[e] at this;cases this.1
 ·by_cases q:σ.AL a=none;exact q;refine AW (CD q) λL E=>?_;refine AJ (R.AL _ _ E) λZ A Z=>?_;obtain ⟨O,m,p,I,_,H,_⟩:=A;rw[U] at I;cases I;rw[hd] at H;cases H
 ·by_cases q:σ.AZ a=none;exact q;refine AW (CD q) λL E=>?_;refine AJ (R.AZ _ _ E) λZ A Z=>?_;obtain ⟨O,m,p,I,_,H,_⟩:=A;rw[U] at I;cases I;rw[hd] at H;cases H
def AB.Ug(R:AB B D σ h)(e:σ.AL a≠none\/σ.AZ a≠none):σ.A1 a=none/\σ.set a=none/\∀b,σ.cls b≠none->b≠a/\D b≠a:=by
 refine⟨?_,?_,λb q=>⟨?_,?_⟩⟩
 ·by_cases q:σ.A1 a=none;exact q;refine AW (CD q) λL E=>?_;haveI:=R.PW E;rw[this.2.1,this.2.2] at e;simp at e
 ·by_cases q:σ.set a=none;exact q;refine AW (CD q) λL E=>?_;haveI:=R.Ue E;rw[this.2.1,this.2.2] at e;simp at e
 ·refine AW (CD q) λc E=>?_;rcases e with z| z<;>refine AW (CD z) λl z=>?_
  ·refine AJ (R.AL _ _ z) λZ A Z=>?_;obtain ⟨o,m,p,I,_,H,_⟩:=A;exact R.N0 E I (by rw[H];simp)
  ·refine AJ (R.AZ _ _ z) λZ A Z=>?_;obtain ⟨o,m,p,I,_,H,_⟩:=A;exact R.N0 E I (by rw[H];simp)
 ·intro F;rcases F with rfl
  haveI:=R.HI b q;rw[this.1,this.2] at e;simp at e
def Km(e:σ.A1 a=some l):B2 σ D a:=.inr (.inr (.inl (nn e)))
def Kn(e:σ.set a=some l):B2 σ D a:=.inr (.inr (.inr (.inl (nn e))))
def Ko(e:σ.AL a=some l):B2 σ D a:=.inr (.inr (.inr (.inr (.inl (nn e)))))
def N1(e:σ.AZ a=some l):B2 σ D a:=.inr (.inr (.inr (.inr (.inr (nn e)))))
def Uh(e:σ.cls a=some c):B2 σ D a:=.inl (nn e)
def N2(e:σ.cls a=some c):B2 σ D (D a):=.inr (.inl ⟨a,by exact nn e,rfl⟩)
def AB.uL(R:AB B D σ h){l L:List AV}(e:σ.A1 a=some l)(k:Heap.ExtBut a h h')(p:IsL h' a v.toArray n)(r:Af h L v):AB B D (σ.uL a L) h'/\BM h h':=by
 refine B9 (R.A1 a l e) λV N P Z=>?_;refine C9 (R.PW e) λy f O=>?_;refine R.modify k (R.Ud P (by simp) (by simp)) (R.Fz a (Km e)) (λo v n q c d=>by rw[P] at q;cases q;simp at c) rfl rfl rfl (λb q=>A5 q) (λZ Z=>rfl) (λZ Z=>rfl) (λZ Z=>rfl)
  (λl q=>?_) (λl q=>?_) (λl q=>?_) (λl q=>?_) (λq=>?_) λq=>?_
 ·haveI:L=l:=by simpa [AH.uL] using q
  subst this;exact⟨v,n,p,r⟩
 ·exact nO q ((show (σ.uL a L).set a=σ.set a from rfl)▸y)
 ·exact nO q ((show (σ.uL a L).AL a=σ.AL a from rfl)▸f)
 ·exact nO q ((show (σ.uL a L).AZ a=σ.AZ a from rfl)▸O)
 ·exact O
 ·rw[show (σ.uL a L).AL a=σ.AL a from rfl,show (σ.uL a L).AZ a=σ.AZ a from rfl,f,O] at q;simp at q
def AB.uS(R:AB B D σ h){l L:List Int}(e:σ.set a=some l)(k:Heap.ExtBut a h h')(S:L.Nodup)(p:h'.SetOf (intKind B.prog B.w) a (λk=>decide (k∈L)) L.length):AB B D (σ.uS a L) h'/\BM h h':=by
 refine Ac (λZ A=>?_) (R.set a l e);obtain ⟨o,m,E,t,H,_,hd,_⟩:=A;refine C9 (R.Ue e) λy f O=>?_;refine R.modify k (R.Ud H (by rw[hd];simp) (by rw[hd];simp)) (R.Fz a (Kn e)) (λU v n q c d=>by rw[H] at q;cases q;rw[hd] at d;cases d) rfl rfl rfl (λZ Z=>rfl) (λb q=>A5 q) (λZ Z=>rfl) (λZ Z=>rfl)
  (λl q=>?_) (λl q=>?_) (λl q=>?_) (λl q=>?_) (λq=>?_) λq=>?_
 ·exact nO q ((show (σ.uS a L).A1 a=σ.A1 a from rfl)▸y)
 ·haveI:L=l:=by simpa [AH.uS] using q
  subst this;exact⟨S,p⟩
 ·exact nO q ((show (σ.uS a L).AL a=σ.AL a from rfl)▸f)
 ·exact nO q ((show (σ.uS a L).AZ a=σ.AZ a from rfl)▸O)
 ·exact O
 ·rw[show (σ.uS a L).AL a=σ.AL a from rfl,show (σ.uS a L).AZ a=σ.AZ a from rfl,f,O] at q;simp at q
def AB.uI(R:AB B D σ h){l L:List (Int×AV)}(e:σ.AL a=some l)(k:Heap.ExtBut a h h'){K:List (Int×Value)}(p:h'.DictOf (intKind B.prog B.w) a K)(r:Cq h L K):AB B D (σ.uI a L) h'/\BM h h':=by
 refine AJ (R.AL a l e) λZ A Z=>?_;obtain ⟨o,m,E,H,_,hd,_⟩:=A;have N:σ.AL a≠none:=nn e;refine C9 (R.Ug (.inl N)) λO f g=>?_;refine R.modify k g (R.Fz a (Ko e)) (λU v n q c d=>by rw[H] at q;cases q;rw[hd] at d;cases d) rfl rfl rfl (λZ Z=>rfl) (λZ Z=>rfl) (λb q=>A5 q) (λZ Z=>rfl)
  (λl q=>?_) (λl q=>?_) (λl q=>?_) (λl q=>?_) (λq=>?_) λq=>?_
 ·exact nO q ((show (σ.uI a L).A1 a=σ.A1 a from rfl)▸O)
 ·exact nO q ((show (σ.uI a L).set a=σ.set a from rfl)▸f)
 ·haveI:L=l:=by simpa [AH.uI] using q
  subst this;exact⟨K,p,r⟩
 ·exact nO q ((show (σ.uI a L).AZ a=σ.AZ a from rfl)▸R.apart a N)
 ·exact R.apart a N
 ·exact R.HJ a (.inl N)
def AB.uT(R:AB B D σ h){l L:List (KY×AV)}(e:σ.AZ a=some l)(k:Heap.ExtBut a h h')(p:h'.DictOfH (HG B.prog B.w) a x)(r:Du h L x):AB B D (σ.uT a L) h'/\BM h h':=by
 refine AJ (R.AZ a l e) λZ A Z=>?_;obtain ⟨o,m,E,H,_,hd,_⟩:=A;have N:σ.AZ a≠none:=nn e;have g:σ.AL a=none:=by
  by_cases q:σ.AL a=none;exact q;exact Ad (R.apart a q) N
 refine C9 (R.Ug (.inr N)) λO f j=>?_;refine R.modify k j (R.Fz a (N1 e)) (λU v n q c d=>by rw[H] at q;cases q;rw[hd] at d;cases d) rfl rfl rfl (λZ Z=>rfl) (λZ Z=>rfl) (λZ Z=>rfl) (λb q=>A5 q)
  (λl q=>?_) (λl q=>?_) (λl q=>?_) (λl q=>?_) (λq=>?_) λq=>?_
 ·exact nO q ((show (σ.uT a L).A1 a=σ.A1 a from rfl)▸O)
 ·exact nO q ((show (σ.uT a L).set a=σ.set a from rfl)▸f)
 ·exact nO q ((show (σ.uT a L).AL a=σ.AL a from rfl)▸g)
 ·haveI:L=l:=by simpa [AH.uT] using q
  subst this;exact⟨x,p,r⟩
 ·exact Ad g q
 ·exact R.HJ a (.inr N)
def Ep(x:¬B2 σ D a):σ.fresh a:=by
 unfold B2 at x;simp only[not_or,ne_eq,Decidable.not_not] at x;exact⟨x.1,x.2.2.1,x.2.2.2.1,x.2.2.2.2.1,x.2.2.2.2.2⟩
def AB.free(R:AB B D σ h)(H:h.get? a=none):¬B2 σ D a:=λx=>by refine AW (R.at_ x) λo e=>?_;exact nO e H
def AB.N3(x:¬B2 σ D a):∀b,σ.cls b≠none->b≠a/\D b≠a:=λb q=>⟨λe=>x (e▸.inl q),λe=>x (.inr (.inl ⟨b,q,e⟩))⟩
def AB.GV(R:AB B D σ h)(H:h.get? a=none):B.h0.get? a=none:=by
 cases e:B.h0.get? a with
 | none=>rfl
 | some o=>exact nO (R.Ao a o e) H
def AB.nL(R:AB B D σ h)(H:h.get? a=none)(k:Heap.ExtBut a h h')(p:IsL h' a v.toArray n)(r:Af h l v):AB B D (σ.uL a l) h'/\BM h h':=by
 obtain ⟨f1,f2,F,f4,f⟩:=Ep (R.free H);refine R.modify k (AB.N3 (R.free H)) (R.GV H) (λo v n q c d=>by exact nO q H) rfl rfl rfl (λb q=>A5 q) (λZ Z=>rfl) (λZ Z=>rfl) (λZ Z=>rfl)
  (λL q=>?_) (λL q=>?_) (λL q=>?_) (λL q=>?_) (λq=>?_) λq=>?_
 ·haveI:l=L:=by simpa [AH.uL] using q
  subst this;exact⟨v,n,p,r⟩
 ·exact nO q ((show (σ.uL a l).set a=σ.set a from rfl)▸F)
 ·exact nO q ((show (σ.uL a l).AL a=σ.AL a from rfl)▸f4)
 ·exact nO q ((show (σ.uL a l).AZ a=σ.AZ a from rfl)▸f)
 ·exact f
 ·rw[show (σ.uL a l).AL a=σ.AL a from rfl,show (σ.uL a l).AZ a=σ.AZ a from rfl,f4,f] at q;simp at q
def AB.nS(R:AB B D σ h)(H:h.get? a=none)(k:Heap.ExtBut a h h')(nd:l.Nodup)(p:h'.SetOf (intKind B.prog B.w) a (λk=>decide (k∈l)) l.length):AB B D (σ.uS a l) h'/\BM h h':=by
 obtain ⟨f1,f2,F,f4,f⟩:=Ep (R.free H);refine R.modify k (AB.N3 (R.free H)) (R.GV H) (λo v n q c d=>by exact nO q H) rfl rfl rfl (λZ Z=>rfl) (λb q=>A5 q) (λZ Z=>rfl) (λZ Z=>rfl)
  (λL q=>?_) (λL q=>?_) (λL q=>?_) (λL q=>?_) (λq=>?_) λq=>?_
 ·exact nO q ((show (σ.uS a l).A1 a=σ.A1 a from rfl)▸f2)
 ·haveI:l=L:=by simpa [AH.uS] using q
  subst this;exact⟨nd,p⟩
 ·exact nO q ((show (σ.uS a l).AL a=σ.AL a from rfl)▸f4)
 ·exact nO q ((show (σ.uS a l).AZ a=σ.AZ a from rfl)▸f)
 ·exact f
 ·rw[show (σ.uS a l).AL a=σ.AL a from rfl,show (σ.uS a l).AZ a=σ.AZ a from rfl,f4,f] at q;simp at q
def AB.nI(R:AB B D σ h)(H:h.get? a=none)(Q:a≠sysModules)(k:Heap.ExtBut a h h'){l:List (Int×AV)}{K:List (Int×Value)}(p:h'.DictOf (intKind B.prog B.w) a K)(r:Cq h l K):AB B D (σ.uI a l) h'/\BM h h':=by
 obtain ⟨f1,f2,F,f4,f⟩:=Ep (R.free H);refine R.modify k (AB.N3 (R.free H)) (R.GV H) (λo v n q c d=>by exact nO q H) rfl rfl rfl (λZ Z=>rfl) (λZ Z=>rfl) (λb q=>A5 q) (λZ Z=>rfl)
  (λL q=>?_) (λL q=>?_) (λL q=>?_) (λL q=>?_) (λq=>?_) λq=>?_
 ·exact nO q ((show (σ.uI a l).A1 a=σ.A1 a from rfl)▸f2)
 ·exact nO q ((show (σ.uI a l).set a=σ.set a from rfl)▸F)
 ·haveI:l=L:=by simpa [AH.uI] using q
  subst this;exact⟨K,p,r⟩
 ·exact nO q ((show (σ.uI a l).AZ a=σ.AZ a from rfl)▸f)
 ·exact f
 ·exact Q
def AB.nT(R:AB B D σ h)(H:h.get? a=none)(Q:a≠sysModules)(k:Heap.ExtBut a h h')(p:h'.DictOfH (HG B.prog B.w) a x)(r:Du h l x):AB B D (σ.uT a l) h'/\BM h h':=by
 obtain ⟨f1,f2,f,f4,F⟩:=Ep (R.free H);refine R.modify k (AB.N3 (R.free H)) (R.GV H) (λo v n q c d=>by exact nO q H) rfl rfl rfl (λZ Z=>rfl) (λZ Z=>rfl) (λZ Z=>rfl) (λb q=>A5 q)
  (λL q=>?_) (λL q=>?_) (λL q=>?_) (λL q=>?_) (λq=>?_) λq=>?_
 ·exact nO q ((show (σ.uT a l).A1 a=σ.A1 a from rfl)▸f2)
 ·exact nO q ((show (σ.uT a l).set a=σ.set a from rfl)▸f)
 ·exact nO q ((show (σ.uT a l).AL a=σ.AL a from rfl)▸f4)
 ·haveI:l=L:=by simpa [AH.uT] using q
  subst this;exact⟨x,p,r⟩
 ·exact Ad f4 q
 ·exact Q
end
def bQ:CJ.Nodup:=by decide+kernel
def bR{i j:Nat}{x:Str}(h:CJ[i]?=some x)(H:CJ[j]?=some x):i=j:=by
 obtain ⟨p,rfl⟩:=D6.mp h;rcases D6.mp H with⟨q,e⟩
 haveI P:=List.pairwise_iff_getElem.mp bQ;rcases Nat.lt_trichotomy i j with z| z| z
 ·exact Ad e.symm (P i j p q z)
 ·exact z
 ·exact Ad e (P j i q p z)
section
variable{B:Av}{D:Addr->Addr}{σ Aq:AH}{h h':Heap}{a:Addr}
def AB.uF(R:AB B D σ h){c:Addr}(e:σ.cls a=some c){m:Str->Option Value}(S:UZ h (σ.A4 a) m){i:Nat}{x:Str}(X:CJ[i]?=some x)(T:EU c i=true){v:AV}{F:Value}(P:AF h v F)
  (k:Heap.ExtBut (D a) h h') (U:h'.Ns1 (D a) (λy=>if y=x then some F else m y)):AB B D (σ.uF a i v) h'/\BM h h':=by
 refine F3 (R.inst a c e) λpa yh A Z=>?_;obtain ⟨od,es,ep,Y,C,_⟩:=A;have N:σ.cls a≠none:=nn e;have K:BM h h':=λb o V n q c d=>k b o (λe=>by rw[e,Y] at q;cases q;rw[C] at d;cases d) q;have nl:∀b,σ.A1 b≠none->b≠D a:=λb q E=>by
  refine AW (CD q) λl z=>?_;refine B9 (R.A1 _ _ z) λZ Z z Z=>?_;rw[IsL,E,Y] at z;cases z;cases C
 have ns:∀b,σ.set b≠none->b≠D a:=λb q E=>by
  refine AW (CD q) λl z=>?_;refine Ac (λZ A=>?_) (R.set _ _ z);obtain ⟨o,_,_,_,H,_,hd,_⟩:=A;rw[E,Y] at H;cases H;rw[C] at hd;cases hd
 haveI ni:∀b,σ.AL b≠none->b≠D a:=λb q E=>q (E▸(R.HI a N).1);have nt:∀b,σ.AZ b≠none->b≠D a:=λb q E=>q (E▸(R.HI a N).2);have nc:∀b,σ.cls b≠none->b≠D a:=λb q E=>by
  refine AW (CD q) λl z=>?_;exact R.N0 z Y (by rw[C];simp) E
 refine⟨(λZ zK=>zK (λb o q=>k b o (λp=>?_) (R.Ao b o q)) (λb I q=>?_) (λb I q=>?_) (λb j q=>?_) (λb l q=>?_) (λb l q=>?_) (λb l q=>?_) (λb l q=>?_) R.Fz R.Iq R.HI R.apart R.HJ R.Ir),K⟩
 ·have:=R.Fz (D a) (N2 e);exact nO q (p▸this)
 ·have Q:σ.cls b=some I:=q;have L:σ.cls b≠none:=nn Q;refine F3 (R.inst b I Q) λp M bS G=>?_;refine⟨k _ _ (nc b L) p,?_⟩;by_cases f:b=a
  ·subst f;refine⟨_,U,λj y O=>?_,λy O=>?_⟩
   ·refine(?_:FU h' (if b=b/\j=i then some v else σ.A4 b j) (if y=x then some F else m y));by_cases A0:j=i
    ·subst A0;obtain rfl:y=x:=BL (O.symm.trans X);rw[A6 ⟨rfl,rfl⟩,A6 rfl];exact P.mono K
    ·rw[A5 (λz=>A0 z.2),A5 (λ(z:y=x)=>A0 (bR (z▸O) X))];exact(S.1 j y O).mono K
   ·refine(?_:(if y=x then some F else m y)=none);rw[A5 (λ(z:y=x)=>O (z▸Bj X))];exact S.2 y O
  ·obtain ⟨o,g,W,H,r⟩:=bS;refine⟨M,⟨o,g,W,k _ _ (λz=>f (R.Iq b a L N z)) H,r⟩,λj y O=>?_,G.2⟩;refine(?_:FU h' (if b=a/\j=i then some v else σ.A4 b j) (M y));rw[A5 (λz=>f z.1)];exact(G.1 j y O).mono K
 ·refine⟨(R.EF b I q).1,λj z=>?_⟩;haveI z:(if b=a/\j=i then some v else σ.A4 b j)≠none:=z;by_cases w:b=a/\j=i
  ·refine Ac (λA G0=>?_) w;subst A;subst G0;rw[show σ.cls b=some I from q] at e;cases e;exact T
  ·rw[A5 w] at z;exact(R.EF b I q).2 j z
 ·haveI z:(if b=a/\j=i then some v else σ.A4 b j)≠none:=q;by_cases w:b=a/\j=i
  ·rw[w.1];exact N
  ·rw[A5 w] at z;exact R.Jl b j z
 ·refine B9 (R.A1 b l q) λV n p r=>?_;exact⟨V,n,k _ _ (nl b (by refine(?_:σ.A1 b≠none);rw[show σ.A1 b=some l from q];exact Option.some_ne_none _)) p,r.mono K⟩
 ·refine Ac (λp A=>?_) (R.set b l q);obtain ⟨o,g,W,t,H,r⟩:=A;exact⟨p,o,g,W,t,k _ _ (ns b (nn (q:σ.set b=some l))) H,r⟩
 ·refine AJ (R.AL b l q) λkvs A z=>?_;obtain ⟨o,g,W,H,r⟩:=A;exact⟨kvs,⟨o,g,W,k _ _ (ni b (nn (q:σ.AL b=some l))) H,r⟩,z.mono K⟩
 ·refine AJ (R.AZ b l q) λxs A z=>?_;obtain ⟨o,g,W,H,r1,r2,r3,r4,r5⟩:=A;exact⟨xs,⟨o,g,W,k _ _ (nt b (nn (q:σ.AZ b=some l))) H,r1,r2,r3,λx X=>Cy.mono K (r4 x X),r5⟩,z.mono K⟩
def AB.uN(R:AB B D σ h)(A:c∈HH)(H:h.get? a=none)(hd:h.get? d=none)(y:d≠a)(k:∀b o,h.get? b=some o->h'.get? b=some o)(p:h'.get? a=some (instObj c d))(q:h'.Ns1 d λZ=>none):AB B (λb=>if b=a then d else D b) (σ.uN a c) h':=by
 have r:=R.grow k;have w:=R.free H;have F:=R.free hd;haveI M:=Ep w;haveI v:=Ep F;haveI G:=R.GV H;haveI P:=R.GV hd;haveI nD:∀b,σ.cls b≠none->D b≠d:=λb z e=>F (.inr (.inl ⟨b,z,e⟩));have N:∀b I,(σ.uN a c).cls b=some I->b≠a->σ.cls b=some I:=λb I e n=>by
  haveI:(if b=a then some c else σ.cls b)=some I:=e
  rwa [A5 n] at this
 refine(λZ A0=>A0 r.Ao (λb I e=>?_) (λb I e=>?_) (λb j z=>?_) (λb l e=>r.A1 b l e) (λb l e=>r.set b l e) (λb l e=>r.AL b l e) (λb l e=>r.AZ b l e) (λb z=>?_) (λb f z O e=>?_) (λb z=>?_) r.apart r.HJ r.Ir)
 ·by_cases E:b=a
  ·subst E;have:(if b=b then some c else σ.cls b)=some I:=e;rw[A6 rfl] at this;cases this;refine⟨by simpa using p,λZ=>none,by simpa using q,λi x Z=>?_,λZ Z=>rfl⟩;refine(?_:FU h' (if b=b then none else σ.A4 b i) none);rw[A6 rfl];trivial
  ·haveI g:=N b I e E;refine F3 (r.inst b I g) λC m U L=>?_;obtain ⟨f1,f2⟩:=L;refine⟨by simpa [E] using C,m,by simpa [E] using U,λi x W=>?_,f2⟩;refine(?_:FU h' (if b=a then none else σ.A4 b i) (m x));rw[A5 E];exact f1 i x W
 ·by_cases E:b=a
  ·subst E;have:(if b=b then some c else σ.cls b)=some I:=e;rw[A6 rfl] at this;cases this;refine⟨A,λi z=>?_⟩;exact Ad (A6 rfl:(if b=b then none else σ.A4 b i)=none) z
  ·refine⟨(R.EF b I (N b I e E)).1,λi z=>(R.EF b I (N b I e E)).2 i ?_⟩
   rwa [show (σ.uN a c).A4 b i=σ.A4 b i from A5 E] at z
 ·refine(?_:(if b=a then some c else σ.cls b)≠none);by_cases E:b=a
  ·exact nn (A6 E)
  ·rw[A5 E];rw[show (σ.uN a c).A4 b j=σ.A4 b j from A5 E] at z;exact R.Jl b j z
 ·by_cases E:b=a
  ·exact E▸G
  by_cases V:b=d
  ·exact V▸P
  refine R.Fz b ?_;rcases z with z| ⟨f,z,e⟩| z
  ·refine AW (CD z) λI z=>?_;exact Uh (N b I z E)
  ·dsimp only at e;by_cases g:f=a
   ·rw[A6 g] at e;exact Ad e.symm V
   ·rw[A5 g] at e;refine AW (CD z) λI z=>?_;exact e▸N2 (N f I z g)
  ·exact .inr (.inr z)
 ·replace e:(if b=a then d else D b)=if f=a then d else D f:=e
  by_cases K:b=a
  ·by_cases S:f=a
   ·rw[K,S]
   ·refine AW (CD O) λI O=>?_;rw[A6 K,A5 S] at e;exact Ad e.symm (nD f (nn (N f I O S)))
  ·refine AW (CD z) λt z=>?_;by_cases S:f=a
   ·rw[A5 K,A6 S] at e;exact Ad e (nD b (nn (N b t z K)))
   ·refine AW (CD O) λI O=>?_;rw[A5 K,A5 S] at e;exact R.Iq b f (nn (N b t z K)) (nn (N f I O S)) e
 ·dsimp only;by_cases K:b=a
  ·rw[A6 K];exact⟨v.2.2.2.1,v.2.2.2.2⟩
  ·rw[A5 K];refine AW (CD z) λt z=>?_;exact R.HI b (nn (N b t z K))
def yi:B2 (σ.uF a i v) D b->B2 σ D b:=id
def Kp(x:B2 (σ.uL a l) D b):B2 σ D b\/b=a:=by
 by_cases e:b=a
 ·exact .inr e
 ·unfold B2 at x⊢;rw[show (σ.uL a l).A1 b=σ.A1 b from A5 e] at x;exact .inl x
def Ui(x:B2 (σ.uS a l) D b):B2 σ D b\/b=a:=by
 by_cases e:b=a
 ·exact .inr e
 ·unfold B2 at x⊢;rw[show (σ.uS a l).set b=σ.set b from A5 e] at x;exact .inl x
def PX(x:B2 (σ.uI a l) D b):B2 σ D b\/b=a:=by
 by_cases e:b=a
 ·exact .inr e
 ·unfold B2 at x⊢;rw[show (σ.uI a l).AL b=σ.AL b from A5 e] at x;exact .inl x
def Uj(x:B2 (σ.uT a l) D b):B2 σ D b\/b=a:=by
 by_cases e:b=a
 ·exact .inr e
 ·unfold B2 at x⊢;rw[show (σ.uT a l).AZ b=σ.AZ b from A5 e] at x;exact .inl x
def bT{c d b:Addr}(x:B2 (σ.uN a c) (λb=>if b=a then d else D b) b):B2 σ D b\/b=a\/b=d:=by
 by_cases e:b=a
 ·exact .inr (.inl e)
 by_cases E:b=d
 ·exact .inr (.inr E)
 refine .inl ?_;obtain z| ⟨B,z,q⟩| z:=x
 ·rw[show (σ.uN a c).cls b=σ.cls b from A5 e] at z;exact .inl z
 ·dsimp only at q;by_cases w:B=a
  ·rw[A6 w] at q;exact Ad q.symm E
  ·rw[A5 w] at q;rw[show (σ.uN a c).cls B=σ.cls B from A5 w] at z;exact .inr (.inl ⟨B,z,q⟩)
 ·exact .inr (.inr z)
end
set_option genCtorIdx true in
inductive Dv| add| sub| mul| fdiv| mod| Ab| AQ| shl| shr| pow
 deriving DecidableEq
set_option genCtorIdx true in
inductive GW| eq| ne| lt| le| gt| ge
 deriving DecidableEq
set_option genCtorIdx true in
inductive Og| a| b| c| d| e| f| g| h| i| j| k| l| m| n| o| p
mutual
inductive ME where
 | k (v:AV)
 | J (i:Nat)
 | attr (e:ME) (f:Nat)
 | bin (op:Dv) (a b:ME)
 | cmp (op:GW) (a b:ME)
 | cmp3 (p q:GW) (a b c:ME)
 | ite (c a b:ME)
 | slFT (a lo hi:ME)
 | Ar (o:ME) (m:Nat) (es:Cd)
 | extendK (o:ME) (l:List AV)
 | u (o:Og) (a:ME)
 | b (o:Og) (a b:ME)
 | q (o:Og) (n:Bool) (a b:ME)
 | z (o:Og)
 | s (o:Og) (f:Nat) (es:Cd)
inductive Cd where
 | nil
 | cons (e:ME) (es:Cd)
end
noncomputable abbrev ME.inv (a:ME):ME:=.u .a a
noncomputable abbrev ME.neg (a:ME):ME:=.u .b a
noncomputable abbrev ME.not (a:ME):ME:=.u .c a
noncomputable abbrev ME.PY (a:ME):ME:=.u .d a
noncomputable abbrev ME.Uk (a:ME):ME:=.u .e a
noncomputable abbrev ME.pop (a:ME):ME:=.u .f a
noncomputable abbrev ME.len (a:ME):ME:=.u .g a
noncomputable abbrev ME.Jm (a:ME):ME:=.u .h a
noncomputable abbrev ME.Ul (a:ME):ME:=.u .i a
noncomputable abbrev ME.Um (a:ME):ME:=.u .j a
noncomputable abbrev ME.PZ (a:ME):ME:=.u .k a
noncomputable abbrev ME.Pb (a:ME):ME:=.u .l a
noncomputable abbrev ME.Pc (a:ME):ME:=.u .m a
noncomputable abbrev ME.Un (a:ME):ME:=.u .n a
noncomputable abbrev ME.Uo (a:ME):ME:=.u .o a
noncomputable abbrev ME.cat (a b:ME):ME:=.b .a a b
noncomputable abbrev ME.rep (a b:ME):ME:=.b .b a b
noncomputable abbrev ME.idx (a b:ME):ME:=.b .c a b
noncomputable abbrev ME.Pd (a b:ME):ME:=.b .d a b
noncomputable abbrev ME.EV (a b:ME):ME:=.b .e a b
noncomputable abbrev ME.N4 (a b:ME):ME:=.b .f a b
noncomputable abbrev ME.Pe (a b:ME):ME:=.b .g a b
noncomputable abbrev ME.Up (a b:ME):ME:=.b .h a b
noncomputable abbrev ME.mx (a b:ME):ME:=.b .i a b
noncomputable abbrev ME.mn (a b:ME):ME:=.b .j a b
noncomputable abbrev ME.Uq (a b:ME):ME:=.b .k a b
noncomputable abbrev ME.append (a b:ME):ME:=.b .l a b
noncomputable abbrev ME.extend (a b:ME):ME:=.b .m a b
noncomputable abbrev ME.Ur (a b:ME):ME:=.b .n a b
noncomputable abbrev ME.and (a b:ME):ME:=.b .o a b
noncomputable abbrev ME.or (a b:ME):ME:=.b .p a b
noncomputable abbrev ME.eqB (n:Bool)(a b:ME):ME:=.q .a n a b
noncomputable abbrev ME.Dw (n:Bool)(a b:ME):ME:=.q .b n a b
noncomputable abbrev ME.FV (n:Bool)(a b:ME):ME:=.q .c n a b
noncomputable abbrev ME.N5 (n:Bool)(a b:ME):ME:=.q .d n a b
noncomputable abbrev ME.Kq (n:Bool)(a b:ME):ME:=.q .e n a b
noncomputable abbrev ME.Pf (n:Bool)(a b:ME):ME:=.q .f n a b
noncomputable abbrev ME.Us (n:Bool)(a b:ME):ME:=.q .g n a b
noncomputable abbrev ME.Ku:ME:=.z .a
noncomputable abbrev ME.Ut:ME:=.z .b
noncomputable abbrev ME.Uu:ME:=.z .c
noncomputable abbrev ME.EG:ME:=.z .d
noncomputable abbrev ME.AA (e:Cd):ME:=.s .a 0 e
noncomputable abbrev ME.list (e:Cd):ME:=.s .b 0 e
noncomputable abbrev ME.call (f:Nat)(e:Cd):ME:=.s .c f e
noncomputable abbrev ME.sup (f:Nat)(e:Cd):ME:=.s .d f e
inductive MT where
 | J (i:Nat)
 | attr (o:ME) (f:Nat)
 | sub (o i:ME)
 | HK (o i:ME)
 | Kv (o i:ME)
 | locs (is:List Nat)
 | D8 (is:List Nat)
 | attrs (i:Nat) (fs:List Nat)
set_option genCtorIdx true in
inductive FK| list| AA| enum| zip| range
inductive MS where
 | expr (e:ME)
 | A9 (t:MT) (e:ME)
 | compMod (i:Nat) (e:ME)
 | compLe (gt:Bool) (i c:Nat) (e:ME)
 | aug (i:Nat) (op:Dv) (e:ME)
 | augA (i f:Nat) (op:Dv) (e:ME)
 | ite (c:ME) (a b:List MS)
 | Aj (c:ME) (b:List MS)
 | forS (k:FK) (is:List Nat) (e:ME) (b:List MS)
 | ret (e:ME)
 | retN
 | brk
 | cont
 | fail
 | ghost
inductive Fl| next| brk| cont| ret(v:AV)
abbrev AE:=List (Option AV)
abbrev PE:=AV->AH->Prop
structure Ag where
 spec:Nat->List AV->PE->AH->Prop
 Ar:Addr->Nat->Option Nat
def pO{A:Type}(o:Option A)(k:A->Prop):Prop:=match o with| some x=>k x| none=>False
def Pg{A:Type}(o:Option A)(k:A->Prop):pO o k=∃x,o=some x/\k x:=by
 cases o with
 | none=>exact propext ⟨λh=>h.elim,λ⟨_,e,_⟩=>by cases e⟩
 | some x=>exact propext ⟨λh=>⟨x,rfl,h⟩,λ⟨y,e,h⟩=>by cases e;exact h⟩
def HL{A:Type}{o:Option A}{k:A->Prop}(h:pO o k):∃x,o=some x/\k x:=Pg o k▸h
def pO_i{A:Type}{o:Option A}{k:A->Prop}{x:A}(e:o=some x)(h:k x):pO o k:=e▸h
noncomputable def AV.int?:AV->Option Int| .int i=>some i| _=>Option.none
noncomputable def AV.bool?:AV->Option Bool| .bool b=>some b| _=>Option.none
noncomputable def AV.BS:AV->Option Addr| .obj a=>some a| _=>Option.none
noncomputable def AV.D9:AV->Option (List AV)| .AA l=>some l| _=>Option.none
noncomputable def AV.N6:AV->Option (List Int)| .bytes l=>some l| _=>Option.none
noncomputable def Dx:List AV->Option (List Int)
 | []=>some []
 | v::r=>v.int?.bind λi=>(Dx r).map (i:: ·)
noncomputable def AV.Kx (v:AV):Option KY:=v.D9.bind λl=>match l with
 | [a,f,b]=>(a.D9.bind Dx).bind λa=>f.int?.bind λf=>(b.D9.bind Dx).map λb=>(a,f,b)
 | _=>Option.none
noncomputable def Uv (v:AV):Option (Int×Int):=v.D9.bind λl=>match l with
 | [a,b]=>a.int?.bind λa=>b.int?.map λb=>(a,b)
 | _=>none
noncomputable def Jn:List AV->Option (List (Int×Int))
 | []=>some []
 | v::r=>(Uv v).bind λp=>(Jn r).map (p:: ·)
def room(n:Nat):Prop:=n<=1000000
def word(i:Int):Prop:= -(2^62)<=i/\i<2^62
def Dv.ok:Dv->Int->Int->Prop
 | .mul,a,b=>word a/\word b
 | .fdiv,_,b=>b≠0/\b.natAbs<1073741824
 | .mod,_,b=>b≠0
 | .shl,a,b=>word a/\0<=b/\b<=1000
 | .shr,_,b=>0<=b
 | .pow,a,b=>word a/\0<=b/\b<=1000
 | _,_,_=>True
noncomputable def Dv.val:Dv->Int->Int->Int
 | .add,a,b=>a+b
 | .sub,a,b=>a-b
 | .mul,a,b=>a*b
 | .fdiv,a,b=>a.fdiv b
 | .mod,a,b=>a.fmod b
 | .Ab,a,b=>Builtin.bitAnd a b
 | .AQ,a,b=>Builtin.bitOr a b
 | .shl,a,b=>a*2^b.toNat
 | .shr,a,b=>a.fdiv (2^b.toNat)
 | .pow,a,b=>a^b.toNat
noncomputable def GW.val:GW->Int->Int->Bool
 | .eq,a,b=>decide (a=b)
 | .ne,a,b=>!decide (a=b)
 | .lt,a,b=>decide (a<b)
 | .le,a,b=>decide (a<=b)
 | .gt,a,b=>decide (b<a)
 | .ge,a,b=>decide (b<=a)
noncomputable def CR:Nat->AV->AV->Prop
 | _,.none,.none=>True
 | _,.bool _,.bool _=>True
 | _,.int _,.int _=>True
 | n+1,.AA a,.AA b=>∀(j:Nat) (x y:AV),a[j]?=some x->b[j]?=some y->CR n x y
 | _,_,_=>False
noncomputable def AV.nn (v:AV):Bool:=Nat.beq v.ctorIdx 0
noncomputable def AV.oi (v:AV):Bool:=Nat.beq v.ctorIdx 2||Nat.beq v.ctorIdx 5
noncomputable def isA (x y:AV):Option Bool:=cond (x.nn&&y.nn) (some true) (cond (x.nn&&y.oi||y.nn&&x.oi) (some false) none)
noncomputable def GX (l:List (Int×AV))(k:Int):Option AV:=(l.find? λx=>x.1=k).map (·.2)
noncomputable def Hw (l:List (Int×AV))(k:Int)(v:AV):List (Int×AV):=if l.any (λx=>x.1=k) then l.map (λx=>if x.1=k then(x.1,v) else x) else l++[(k,v)]
noncomputable def EW (l:List (KY×AV))(k:KY):Option AV:=(l.find? λx=>decide (x.1=k)).map (·.2)
noncomputable def GY (l:List (KY×AV))(k:KY)(v:AV):List (KY×AV):=if(EW l k).isSome then l.map (λx=>if x.1=k then(x.1,v) else x) else l++[(k,v)]
noncomputable def insI (x:Int):List Int->List Int
 | []=>[x]
 | y::r=>if x<=y then x::y::r else y::insI x r
def It:insI x (y::r)=if x<=y then x::y::r else y::insI x r:=rfl
noncomputable def sortI (l:List Int):List Int:=l.foldr insI []
noncomputable def BF (i:Int)(n:Nat):Option Nat:=if 0<=i then(if i<n then some i.toNat else none) else if-(n:Int)<=i then some (i+n).toNat else none
noncomputable def clip (i:Int)(n:Nat):Nat:=if i<0 then(i+n).toNat else min i.toNat n
noncomputable def Cz:AE->Nat->Option AV
 | [],_=>none
 | a::_,0=>a
 | _::l,n+1=>Cz l n
theorem Ky:∀(l:AE) (i:Nat),Cz l i=(l[i]?).join
 | [],i=>by exact rfl
 | a::l,0=>by cases a<;>rfl
 | _::l,i+1=>by exact Ky l i
noncomputable def AX (l:AE)(i:Nat)(v:AV):AE:=l.set i (some v)
noncomputable def F4 (l:AE):List Nat->List AV->Option AE
 | [],[]=>some l
 | i::is,v::V=>F4 (AX l i v) is V
 | _,_=>none
noncomputable def AH.items (S:AH):AV->Option (List AV)
 | .AA l=>some l
 | .obj a=>S.A1 a
 | _=>none
def AV.tf:AV->Prop
 | .AA _=>False
 | _=>True
def Dy(l:AE):Prop:=∀i v,Cz l i=some v->v.tf
def AH.tf(S:AH):Prop:=(∀a i v,S.A4 a i=some v->v.tf)/\(∀a l,S.A1 a=some l->∀v∈l,v.tf)/\(∀a l,S.AL a=some l->∀p∈l,p.2.tf)/\∀a,S.AZ a=none
def AH.bU(t S:AH)(m:Prop):Prop:=
 (∀a c,t.cls a=some c->S.cls a=some c)->(∀a,t.cls a≠none->t.A4 a=S.A4 a)->(∀a i,t.cls a=none->t.A4 a i=none)->(∀a l,t.A1 a=some l->S.A1 a=some l)->(∀a l,t.set a=some l->S.set a=some l)->(∀a l,t.AL a=some l->S.AL a=some l)->(∀a l,t.AZ a=some l->S.AZ a=some l)->(∀a l,t.ro a=some l->S.ro a=some l)->m
def AH.le(t S:AH):Prop:=Ch (AH.bU t S)
section
variable(zh:AH.le A7 σ)
def AH.le.cls:=zh _ λz Z Z Z Z Z Z Z=>z
def AH.le.A4:=zh _ λZ z Z Z Z Z Z Z=>z
def AH.le.bV:=zh _ λZ Z z Z Z Z Z Z=>z
def AH.le.A1:=zh _ λZ Z Z z Z Z Z Z=>z
def AH.le.set:=zh _ λZ Z Z Z z Z Z Z=>z
def AH.le.AL:=zh _ λZ Z Z Z Z z Z Z=>z
def AH.le.AZ:=zh _ λZ Z Z Z Z Z z Z=>z
def AH.le.ro:=zh _ λZ Z Z Z Z Z Z z=>z
end
open Classical in
def uF(o:Og)(Q:PE)(x:AV)(σ:AH):Prop:=match o with
 | .a=>pO x.int? λi=>Q (.int (-i-1)) σ
 | .b=>pO x.int? λi=>Q (.int (-i)) σ
 | .c=>pO x.bool? λc=>Q (.bool (!c)) σ
 | .d=>pO x.BS λo=>pO (σ.A1 o) λu=>room u.length/\∀a,σ.fresh a->Q (.obj a) (σ.uL a u)
 | .e=>pO x.BS λo=>pO (σ.A1 o) λu=>room u.length/\∀a,σ.fresh a->Q (.obj a) (σ.uL a u.reverse)
 | .f=>pO x.BS λa=>pO (σ.A1 a) λu=>room u.length/\pO u.getLast? λy=>Q y (σ.uL a u.dropLast)
 | .g=>match x with
   | .obj o=>(∃u,σ.A1 o=some u/\room u.length/\Q (.int u.length) σ)\/(∃u,σ.AZ o=some u/\room u.length/\Q (.int u.length) σ)
   | .bytes u=>room u.length/\Q (.int u.length) σ
   | _=>False
 | .h=>pO x.BS λo=>pO (σ.A1 o) λu=>pO (Dx u) λC=>C.length<64/\∀a,σ.fresh a->Q (.obj a) (σ.uL a ((sortI C).map .int))
 | .i=>pO x.BS λo=>pO (σ.AL o) λu=>u.length<64/\∀a,σ.fresh a->Q (.obj a) (σ.uL a ((sortI (u.map (·.1))).map .int))
 | .j=>pO x.BS λo=>pO (σ.AL o) λu=>u.length<64/\∀a,σ.fresh a->Q (.obj a) (σ.uL a ((sortI (u.map (·.1))).map .int))
 | .k=>pO x.N6 λu=>room u.length/\∀a,σ.fresh a->Q (.obj a) (σ.uL a (u.map .int))
 | .l=>pO x.BS λo=>pO (σ.A1 o) λu=>room u.length/\Q (.AA u) σ
 | .m=>pO x.BS λo=>pO (σ.A1 o) λu=>pO (Dx u) λC=>room C.length/\(∀i∈C,0<=i/\i<256)/\Q (.bytes C) σ
 | .n=>pO x.BS λo=>pO (σ.A1 o) λu=>pO (Jn u) λP=>room P.length/\∀a,σ.fresh a->Q (.obj a) (σ.uL a (P.map λp=>.int p.1))
 | .o=>pO x.BS λo=>pO (σ.A1 o) λu=>pO (Jn u) λP=>room P.length/\∀a,σ.fresh a->Q (.obj a) (σ.uL a ((P.filter λp=>decide (p.2<255)).map λp=>.int (p.2+1)))
 | .p=>False
open Classical in
def bF(o:Og)(E:PE->AH->Prop)(Q:PE)(x:AV)(S:AH):Prop:=match o with
 | .a=>E (λy S=>pO x.BS λi=>pO y.BS λj=>pO (S.A1 i) λu=>pO (S.A1 j) λv=>room (u.length+v.length)/\∀o,S.fresh o->Q (.obj o) (S.uL o (u++v))) S
 | .b=>E (λy S=>pO x.BS λi=>pO (S.A1 i) λu=>pO y.int? λm=>0<=m/\m<=1000/\∃x,u=[x]/\∀o,S.fresh o->Q (.obj o) (S.uL o (List.replicate m.toNat x))) S
 | .c=>E (λy S=>pO y.int? λn=>word n/\match x with
   | .obj o=>pO (S.A1 o) λu=>pO (BF n u.length) λj=>pO (u[j]?) λr=>Q r S
   | .bytes u=>room u.length/\0<=n/\pO (u[n.toNat]?) λr=>Q (.int r) S
   | _=>False) S
 | .d=>E (λy S=>pO x.BS λo=>pO (S.AL o) λt=>pO y.int? λn=>pO (GX t n) λr=>Q r S) S
 | .e=>E (λy S=>pO x.BS λo=>pO (S.AZ o) λt=>pO y.Kx λn=>pO (EW t n) λr=>Q r S) S
 | .f=>E (λy S=>pO y.int? λn=>0<=n/\word n/\match x with
   | .obj o=>pO (S.A1 o) λu=>room u.length/\∀a,S.fresh a->Q (.obj a) (S.uL a (u.take n.toNat))
   | .bytes u=>room u.length/\Q (.bytes (u.take n.toNat)) S
   | _=>False) S
 | .g=>E (λy S=>pO y.int? λn=>0<=n/\word n/\match x with
   | .obj o=>pO (S.A1 o) λu=>room u.length/\∀a,S.fresh a->Q (.obj a) (S.uL a (u.drop n.toNat))
   | .bytes u=>room u.length/\Q (.bytes (u.drop n.toNat)) S
   | _=>False) S
 | .h=>E (λy S=>pO y.int? λn=>0<=n/\word n/\pO x.BS λo=>pO (S.ro o) λu=>room u.length/\∀a,S.fresh a->Q (.obj a) (S.uL a ((u.take n.toNat).map .int))) S
 | .i=>E (λy S=>pO x.int? λi=>pO y.int? λj=>Q (.int (max i j)) S) S
 | .j=>E (λy S=>pO x.int? λi=>pO y.int? λj=>Q (.int (min i j)) S) S
 | .k=>E (λy S=>pO x.int? λi=>pO y.BS λo=>pO (S.set o) λt=>t.length<=1000/\Q (.bool (decide (i∈t))) S) S
 | .l=>pO x.BS λa=>pO (S.A1 a) λZ=>E (λy S=>pO (S.A1 a) λu=>room u.length/\Q .none (S.uL a (u++[y]))) S
 | .m=>pO x.BS λa=>pO (S.A1 a) λZ=>E (λy S=>pO (S.A1 a) λu=>pO y.BS λb=>pO (S.A1 b) λw=>room (u.length+w.length)/\Q .none (S.uL a (u++w))) S
 | .n=>pO x.BS λa=>pO (S.set a) λZ=>E (λy S=>pO y.int? λi=>pO (S.set a) λt=>t.length<=1000/\i∉t/\Q .none (S.uS a (t++[i]))) S
 | .o=>pO x.bool? λc=>(c=true->E Q S)/\(c=false->Q (.bool false) S)
 | .p=>pO x.bool? λc=>(c=true->Q (.bool true) S)/\(c=false->E Q S)
open Classical in
def qF(o:Og)(n:Bool)(Q:PE)(x y:AV)(S:AH):Prop:=match o with
 | .a=>pO x.bool? λi=>pO y.bool? λj=>Q (.bool (n^^decide (i=j))) S
 | .b=>match x,y with
   | .none,.none=>n=false/\Q (.bool true) S
   | .bytes i,.bytes j=>n=false/\Q (.bool (decide (i=j))) S
   | .obj i,.obj j=>pO (S.A1 i) λu=>pO (S.A1 j) λv=>(∀(j:Nat) (x y:AV),u[j]?=some x->v[j]?=some y->CR 3 x y)/\Q (.bool (n^^decide (u=v))) S
   | _,_=>False
 | .c=>match x,y with
   | .obj i,.obj j=>pO (S.cls i) λZ=>pO (S.cls j) λZ=>Q (.bool (n^^decide (i=j))) S
   | x,y=>pO (isA x y) λr=>Q (.bool (n^^r)) S
 | .d=>pO y.D9 λt=>(∀z∈t,CR 3 z x)/\Q (.bool (n^^decide (x∈t))) S
 | .e=>pO y.BS λo=>pO (S.A1 o) λt=>(∀z∈t,CR 3 z x)/\Q (.bool (n^^decide (x∈t))) S
 | .f=>pO x.int? λi=>pO y.BS λo=>pO (S.AL o) λt=>Q (.bool (n^^(GX t i).isSome)) S
 | .g=>pO x.Kx λi=>pO y.BS λo=>pO (S.AZ o) λt=>Q (.bool (n^^(EW t i).isSome)) S
 | _=>False
def zF(o:Og)(Q:PE)(S:AH):Prop:=match o with
 | .a=>∀a,S.fresh a->Q (.obj a) (S.uI a [])
 | .b=>∀a,S.fresh a->Q (.obj a) (S.uT a [])
 | .c=>∀a,S.fresh a->Q (.obj a) (S.uI a [(0,.bool true)])
 | .d=>∀a,S.fresh a->Q (.obj a) (S.uS a [])
 | _=>False
def sF(I:Ag)(o:Og)(f:Nat)(E:(List AV->AH->Prop)->Prop)(Q:PE)(l:AE):Prop:=match o with
 | .a=>E (λV S=>V.length<=100/\Q (.AA V) S)
 | .b=>E (λV S=>V.length<=100/\∀a,S.fresh a->Q (.obj a) (S.uL a V))
 | .c=>E (λV S=>I.spec f V Q S)
 | .d=>pO (Cz l 0) λv=>E (λV S=>I.spec f (v::V) Q S)
 | _=>False
section
variable(I:Ag)
open Classical in
mutual
noncomputable def B3:ME->PE->AE->AH->Prop
 | .k v,Q,_,S=>Q v S
 | .J i,Q,l,S=>pO (Cz l i) λv=>Q v S
 | .attr e f,Q,l,S=>B3 e (λv S=>pO v.BS λa=>pO (S.A4 a f) λx=>Q x S) l S
 | .bin op a b,Q,l,S=>B3 a (λx S=>B3 b (λy S=>pO x.int? λi=>pO y.int? λj=>op.ok i j/\Q (.int (op.val i j)) S) l S) l S
 | .cmp op a b,Q,l,S=>B3 a (λx S=>B3 b (λy S=>pO x.int? λi=>pO y.int? λj=>Q (.bool (op.val i j)) S) l S) l S
 | .cmp3 p q a b c,Q,l,S=>B3 a (λx S=>B3 b (λy S=>pO x.int? λi=>pO y.int? λj=>
   (p.val i j=true->B3 c (λz S=>pO z.int? λn=>Q (.bool (q.val j n)) S) l S)/\(p.val i j=false->Q (.bool false) S)) l S) l S
 | .ite c a b,Q,l,S=>B3 c (λx S=>pO x.bool? λt=>(t=true->B3 a Q l S)/\(t=false->B3 b Q l S)) l S
 | .slFT a lo h,Q,l,S=>B3 a (λx S=>B3 lo (λy S=>B3 h (λz S=>pO y.int? λn=>pO z.int? λm=>0<=n/\n<=m/\word m/\pO x.BS λo=>pO (S.A1 o) λu=>room u.length/\m<=u.length/\
   ∀a,S.fresh a->Q (.obj a) (S.uL a ((u.drop n.toNat).take (m-n).toNat))) l S) l S) l S
 | .Ar o m E,Q,l,S=>B3 o (λx S=>pO x.BS λa=>pO (S.cls a) λc=>pO (I.Ar c m) λf=>Jo E (λV S=>I.spec f (.obj a::V) Q S) l S) l S
 | .extendK o w,Q,l,S=>B3 o (λx S=>pO x.BS λa=>pO (S.A1 a) λu=>room (u.length+w.length)/\Q .none (S.uL a (u++w))) l S
 | .u o a,Q,l,S=>B3 a (uF o Q) l S
 | .b o a b,Q,l,S=>B3 a (bF o (λW T=>B3 b W l T) Q) l S
 | .q o n a b,Q,l,S=>B3 a (λx S=>B3 b (qF o n Q x) l S) l S
 | .z o,Q,_,S=>zF o Q S
 | .s o f E,Q,l,S=>sF I o f (λW=>Jo E W l S) Q l
noncomputable def Jo:Cd->(List AV->AH->Prop)->AE->AH->Prop
 | .nil,Q,_,S=>Q [] S
 | .cons e E,Q,l,S=>B3 e (λv S=>Jo E (λV S=>Q (v::V) S) l S) l S
end
def N7:MT->AV->(AE->AH->Prop)->AE->AH->Prop
 | .J i,v,K,l,S=>K (AX l i v) S
 | .attr o f,v,K,l,S=>B3 I o (λx S=>pO x.BS λa=>pO (S.cls a) λc=>EU c f=true/\K l (S.uF a f v)) l S
 | .sub o i,v,K,l,S=>B3 I o (λx S=>B3 I i (λy S=>pO x.BS λa=>pO (S.A1 a) λu=>pO y.int? λn=>word n/\0<=n/\pO (BF n u.length) λj=>K l (S.uL a (u.set j v))) l S) l S
 | .HK o i,v,K,l,S=>B3 I o (λx S=>B3 I i (λy S=>pO x.BS λa=>pO (S.AL a) λu=>pO y.int? λn=>room u.length/\K l (S.uI a (Hw u n v))) l S) l S
 | .Kv o i,v,K,l,S=>B3 I o (λx S=>B3 I i (λy S=>pO x.BS λa=>pO (S.AZ a) λu=>pO y.Kx λn=>room u.length/\K l (S.uT a (GY u n v))) l S) l S
 | .locs is,v,K,l,S=>pO (S.items v) λV=>pO (F4 l is V) λL=>K L S
 | .D8 is,v,K,l,S=>pO v.D9 λV=>pO (F4 l is.reverse V.reverse) λL=>K L S
 | .attrs i F,v,K,l,S=>pO v.D9 λV=>pO (Cz l i) λx=>pO x.BS λa=>pO (S.cls a) λc=>(∀f∈F,EU c f=true)/\F.length=V.length/\K l ((F.zip V).foldl (λS p=>S.uF a p.1 p.2) S)
noncomputable def Uw (v:AV):Option (Addr×Addr):=v.D9.bind λl=>match l with
 | [a,b]=>a.BS.bind λa=>b.BS.map λb=>(a,b)
 | _=>none
noncomputable def HM (k:FK)(v:AV)(I:AH):Option (List AV×(AE->AH->Prop)):=match k with
 | .list=>v.BS.bind λa=>(I.A1 a).map λl=>(l,λZ S=>S.A1 a=some l)
 | .AA=>v.D9.map λl=>(l,λZ Z=>True)
 | .enum=>v.BS.bind λa=>(I.A1 a).map λl=>(l.zipIdx.map λp=>.AA [.int p.2,p.1],λZ S=>S.A1 a=some l)
 | .zip=>(Uw v).bind λq=>(I.A1 q.1).bind λl=>(I.A1 q.2).map λm=>((l.zip m).map λp=>.AA [p.1,p.2],λJ S=>S.A1 q.1=some l/\S.A1 q.2=some m/\Dy J/\S.tf)
 | .range=>v.int?.map λn=>((List.range n.toNat).map (λ(i:Nat)=>AV.int (i:Int)),λZ Z=>word n)
noncomputable def bindTo (l:AE)(C:List Nat)(v:AV):Option AE:=match C with| [i]=>some (AX l i v)| C=>v.D9.bind (F4 l C)
def Cs (g:AE->AH->Prop)(Q:Fl->AE->AH->Prop):Fl->AE->AH->Prop
 | .next,l,σ=>g l σ
 | .brk,l,σ=>Q .brk l σ
 | .cont,l,σ=>Q .cont l σ
 | .ret v,l,σ=>Q (.ret v) l σ
def Kz (g:AE->AH->Prop)(Q:Fl->AE->AH->Prop):Fl->AE->AH->Prop
 | .next,l,σ=>g l σ
 | .brk,l,σ=>Q .next l σ
 | .cont,l,σ=>g l σ
 | .ret v,l,σ=>Q (.ret v) l σ
def BB (Q:PE):Fl->AE->AH->Prop
 | .next,_,σ=>Q .none σ
 | .brk,_,σ=>Q .none σ
 | .cont,_,σ=>Q .none σ
 | .ret v,_,σ=>Q v σ
noncomputable def forA (g:AE->AH->Prop)(C:List Nat)(B:(Fl->AE->AH->Prop)->AE->AH->Prop)(Q:Fl->AE->AH->Prop):List AV->AE->AH->Prop
 | [],l,σ=>g l σ/\Q .next l σ
 | v::V,l,σ=>g l σ/\pO (bindTo l C v) λl=>B (Kz (forA g C B Q V) Q) l σ
mutual
noncomputable def N8:MS->(Fl->AE->AH->Prop)->AE->AH->Prop
 | .expr e,Q,l,S=>B3 I e (λv S=>(v= .none\/∃i,v= .int i)/\Q .next l S) l S
 | .A9 t e,Q,l,S=>B3 I e (λv S=>N7 I t v (Q .next) l S) l S
 | .compMod i e,Q,l,S=>B3 I e (λx S=>pO x.BS λo=>pO (S.A1 o) λu=>pO (Dx u) λw=>room w.length/\∀a,S.fresh a->Q .next (AX l i (.obj a)) (S.uL a (w.map λn=>.int (n.fmod (10^12))))) l S
 | .compLe gt i c e,Q,l,S=>pO (Cz l c) λy=>pO y.int? λm=>B3 I e (λx S=>pO x.BS λo=>pO (S.A1 o) λu=>pO (Dx u) λw=>room w.length/\
   ∀a,S.fresh a->Q .next (AX l i (.obj a)) (S.uL a ((w.filter λn=>if gt then decide (m<n) else decide (n<=m)).map .int))) l S
 | .aug i op e,Q,l,S=>pO (Cz l i) λx=>B3 I e (λy S=>pO x.int? λn=>pO y.int? λm=>op.ok n m/\Q .next (AX l i (.int (op.val n m))) S) l S
 | .augA i f op e,Q,l,S=>pO (Cz l i) λx=>pO x.BS λa=>pO (S.A4 a f) λy=>B3 I e (λz S=>pO y.int? λn=>pO z.int? λm=>op.ok n m/\pO (S.cls a) λc=>EU c f=true/\Q .next l (S.uF a f (.int (op.val n m)))) l S
 | .ite c a b,Q,l,S=>B3 I c (λv S=>pO v.bool? λt=>(t=true->AP a Q l S)/\(t=false->AP b Q l S)) l S
 | .Aj c b,Q,l,S=>∃C:Nat->AE->AH->Prop,(∃n,C n l S)/\∀n l S,C n l S->B3 I c (λv S=>pO v.bool? λt=>
   (t=true->AP b (Kz (λl S=>∃m,m<n/\C m l S) Q) l S)/\(t=false->Q .next l S)) l S
 | .forS k w e b,Q,l,S=>B3 I e (λv S=>pO (HM k v S) λp=>forA p.2 w (λK l S=>AP b K l S) Q p.1 l S) l S
 | .ret e,Q,l,S=>B3 I e (λv S=>Q (.ret v) l S) l S
 | .retN,Q,l,S=>Q (.ret .none) l S
 | .brk,Q,l,S=>Q .brk l S
 | .cont,Q,l,S=>Q .cont l S
 | .fail,_,_,_=>False
 | .ghost,Q,l,S=>∃T,T.le S/\Q .next l T
noncomputable def AP:List MS->(Fl->AE->AH->Prop)->AE->AH->Prop
 | [],Q,l,σ=>Q .next l σ
 | s::r,Q,l,σ=>N8 s (Cs (AP r Q) Q) l σ
end
def Dz(n:Nat)(B:List MS)(a:List AV)(Q:PE)(S:AH):Prop:=
 AP I B (BB Q) (a.map some++List.replicate n none) S
end
def bW(B:Av)(K:Frag)(l:Prop):Prop:=
 (K.In B.h0)->(B.h0.NoLimit)->(∀c∈HH,plainGet K c ""=true/\hasDictIn K c=true/\plainOver K c=true/\findIn K (.ref c) "__setattr__"=some (some (.builtin "object.__setattr__")))->(∀c∈HH,∀i x,CJ[i]?=some x->EU c i=true->findIn K (.ref c) x=some none/\takerIn K c x=some none)->l
def Facts(B:Av)(K:Frag):Prop:=Ch (bW B K)
section
variable{B:Av}{K:Frag}(zh:Facts B K)
def Facts.X:=zh _ λz Z Z Z=>z
def Facts.lim:=zh _ λZ z Z Z=>z
def Facts.cls:=zh _ λZ Z z Z=>z
def Facts.A4:=zh _ λZ Z Z z=>z
end
def bY(B:Av)(D:Addr->Addr)(I:AH)(s:Shared)(Q:PE)(c:Value)(s':Shared)(l:Prop):Prop:=
 ∀(v:AV) (S:AH) (d:Addr->Addr),Q v S->AB B d S s'.heap->Ext I D s S d s'->AF s'.heap v c->l
def AS(B:Av)(D:Addr->Addr)(S:AH)(s:Shared)(Q:PE)(c:Value)(s':Shared):Prop:=Ch (bY B D S s Q c s')
def bZ(B:Av)(D:Addr->Addr)(I:AH)(s:Shared)(Q:AH->Prop)(u:Unit)(s':Shared)(l:Prop):Prop:=
 ∀(S:AH) (d:Addr->Addr),Q S->AB B d S s'.heap->Ext I D s S d s'->l
def Hx(B:Av)(D:Addr->Addr)(S:AH)(s:Shared)(Q:AH->Prop)(u:Unit)(s':Shared):Prop:=Ch (bZ B D S s Q u s')
def ba(B:Av)(D:Addr->Addr)(I:AH)(s:Shared)(Q:Bool->AH->Prop)(b:Bool)(s':Shared)(l:Prop):Prop:=
 ∀(S:AH) (d:Addr->Addr),Q b S->AB B d S s'.heap->Ext I D s S d s'->l
def bb(B:Av)(D:Addr->Addr)(S:AH)(s:Shared)(Q:Bool->AH->Prop)(b:Bool)(s':Shared):Prop:=Ch (ba B D S s Q b s')
abbrev BG:Value->Shared->Prop:=λZ Z=>False
def bc(r:Nat)(A:Around)(m:Prop):Prop:=
 (A.depth+6*r+10<recursionLimit)->(A.units+20*r+60<cLine)->(A.handled=none)->(∃l,A.frames=some l)->m
def Bn(r:Nat)(A:Around):Prop:=Ch (bc r A)
section
variable(zh:Bn r A)
def Bn.depth:=zh _ λz Z Z Z=>z
def Bn.units:=zh _ λZ z Z Z=>z
def Bn.handled:=zh _ λZ Z z Z=>z
def Bn.frames:=zh _ λZ Z Z z=>z
end
section
variable{B:Av}{K:Frag}{D:Addr->Addr}{σ:AH}{s:Shared}{A:Around}{a:Addr}{Q:PE}
def AS.pure(h:Q v σ)(R:AB B D σ s.heap)(H:AF s'.heap v c)(E:s'.heap=s.heap:=by rfl)(S:s'.gens=s.gens:=by rfl)(l:s'.os=s.os:=by rfl):AS B D σ s Q c s':=
 (λZ I=>I v σ D h (by rw[E];exact R) (λZ I=>I (λb o e Z=>by rw[E];exact e) (λZ x=>.inl x) S l) H)
def AS.grown(h:Q v σ)(R:AB B D σ s.heap)(k:∀b o,s.heap.get? b=some o->s'.heap.get? b=some o)(H:AF s'.heap v c)(E:s'.gens=s.gens:=by rfl)(l:s'.os=s.os:=by rfl):AS B D σ s Q c s':=
 (λZ I=>I v σ D h (R.grow k) (λZ I=>I (λb o e Z=>k b o e) (λZ x=>.inl x) E l) H)
def BM.of{h H:Heap}(k:∀b o,h.get? b=some o->H.get? b=some o):BM h H:=λa o Z Z e Z Z=>k a o e
def AS.trans(x:Ext σ D s E d s')(h:AS B d E s' Q c S):AS B D σ s Q c S:=
 λZ I=>h _ λv M w q R y H=>I v M w q R (x.trans y) H
def Hx.trans{d:Addr->Addr}{E:AH}{s':Shared}{Q:AH->Prop}{u:Unit}{S:Shared}(x:Ext σ D s E d s')(h:Hx B d E s' Q u S):Hx B D σ s Q u S:=
 λZ I=>h _ λM v q R y=>I M v q R (x.trans y)
set_option tactic.hygienic true in
def Ph{h:Heap}{d:Addr}{m:Str->Option Value}(n:h.Ns d m)(x:Str):∃O,h.get? d=some O/\lookIn x O=some (m x):=by
 obtain ⟨o,E,p,U,hd,Q,H⟩:=n;refine⟨o,U,?_⟩;unfold lookIn;rw[hd];dsimp only;haveI H:=H x;unfold nsFind findBy at H;rw[<-Array.find?_toList] at H;split
 ·rename_i e f;rw[f] at H;rw[<-H];rfl
 ·rename_i f;rw[f] at H;haveI:E.toList.any (·.refKey)=false:=by
   rw[List.any_eq_false];intro e f;refine HE (Q e (Array.mem_toList_iff.mp f)) λy t q=>?_;unfold DictEntry.refKey;rw[q];exact CW
  rw[this,<-H];rfl
def length_le_of_subset{A:Type}[DecidableEq A](l m:List A)(h:l.Nodup)(H:∀x∈l,x∈m):l.length<=m.length:=by
 induction l generalizing m with
 | nil=>exact Nat.zero_le _
 | cons x l C=>
  haveI W:=H x (.head _);rw[List.nodup_cons] at h;haveI:=C (m.erase x) h.2 λy O=>(List.mem_erase_of_ne (λ(e:y=x)=>h.1 (e▸O))).mpr (H y (.tail _ O));rw[List.length_erase_of_mem W] at this;haveI:=List.length_pos_of_mem W;simp only[List.length_cons];exact AK 0x2021404000a121004200a42100082 [_,_] [] (by assumption) this
def Pj{h:Heap}{d:Addr}{m:Str->Option Value}(n:h.Ns1 d m):h.Ns d m:=AW n λo n=>AW n λE n=>AW n λe w=>⟨o,E,e,w.1,w.2.1,w.2.2.1,w.2.2.2.2⟩
def bf{h:Heap}{d:Addr}{m:Str->Option Value}(n:h.Ns1 d m)(R:∀x,x∉CJ->m x=none):∃o E r,h.get? d=some o/\o.data= .dict E r/\E.size<=100:=by
 obtain ⟨o,E,r,U,hd,Q,A,hf⟩:=n;refine⟨o,E,r,U,hd,?_⟩;haveI w:∀e∈E.toList,∃x,e.key.isStr x=true/\x∈CJ:=λe f=>by
  refine HE (Q e (Array.mem_toList_iff.mp f)) λx t q=>?_;refine⟨x,by rw[q];exact beq_self_eq_true x,?_⟩;by_cases W:x∈CJ
  ·exact W
  haveI:=(hf x).trans (R x W);unfold nsFind findBy at this;rw[Option.map_eq_none_iff,<-Array.find?_toList,List.find?_eq_none] at this;exact Ad (by rw[q];exact beq_self_eq_true x) (this e f)
 haveI K:∀l:List DictEntry,(∀e∈l,∃x,e.key.isStr x=true/\x∈CJ)->l.Pairwise (λa b=>∀n,a.key.isStr n=true->b.key.isStr n=true->False)->
   ∃N:List Str,N.length=l.length/\N.Nodup/\(∀x∈N,x∈CJ)/\∀x∈N,∃e∈l,e.key.isStr x=true:=by
  intro l;induction l with
  | nil=>intro _ _;exact⟨[],rfl,.nil,by exact List.forall_mem_nil _,by exact List.forall_mem_nil _⟩
  | cons e l C=>
   intro h p;rw[List.pairwise_cons] at p;refine Ht (C (λe f=>h e (.tail _ f)) p.2) λN a b c d=>?_;refine AJ (h e (.head _)) λx W v=>?_;refine⟨x::N,by simp[a],List.nodup_cons.mpr ⟨λR=>?_,b⟩,λy H=>?_,λy H=>?_⟩
   ·refine AJ (d x R) λg j B=>?_;exact p.1 g j x W B
   ·obtain rfl| H:=Co.mp H;exact v;exact c y H
   ·obtain rfl| H:=Co.mp H
    ·exact⟨e,.head _,W⟩
    ·refine AJ (d y H) λg j q=>?_;exact⟨g,.tail _ j,q⟩
 refine Ht (K E.toList w A) λN a b c Z=>?_;haveI:=length_le_of_subset N CJ b c;haveI M:CJ.length<=100:=by decide+kernel
 rw[<-Array.length_toList,<-a];exact AK 0x81904300501080281904308482 [_,_] [] this M
def AB.In(R:AB B D σ h)(F:Facts B K):K.In h:=F.X.keeps R.Ao
def bg(x:AF h v c):handedIn c=true:=by cases x<;>rfl
def Ux(F:Facts B K)(R:AB B D σ s.heap){i:Nat}{x:Str}(W:CJ[i]?=some x){v:AV}(p:σ.A4 a i=some v)(T:Q v σ){b:Bool}:
  wpAny (model B.prog B.w) A (getAttr (.ref a) x b) (AS B D σ s Q) BG s:=by
 refine AW (CD (R.Jl a i (nn p))) λc H=>?_;refine F3 (R.inst a c H) λP m n E=>?_;obtain ⟨f1,_⟩:=E;refine AJ (Ph (Pj n) x) λo X M=>?_;haveI h:=f1 i x W;rw[p] at h;cases S:m x with
 | none=>rw[S] at h;exact h.elim
 | some A0=>
  rw[S] at h M;refine Cp (F.cls c (R.EF a c H).1) λc1 I G L=>?_;refine Ac (λe Z=>?_) (F.A4 c (R.EF a c H).1 i x W ((R.EF a c H).2 i (nn p)));haveI C:InstAt s.heap a (instObj c (D a)) c (some o):=⟨P,rfl,rfl,X⟩;exact get_value (R.In F) C (plainGet_of c1).1 (findObj_own I e rfl M) (bg h) (AS.pure T R h)
def Pk(F:Facts B K)(R:AB B D σ s.heap){c:Addr}(h:σ.cls a=some c){i:Nat}{x:Str}(W:CJ[i]?=some x)(S:EU c i=true){v:AV}{I:Value}(w:AF s.heap v I){Q:AH->Prop}(V:Q (σ.uF a i v)):
  wpAny (model B.prog B.w) A (setAttr (.ref a) x I) (Hx B D σ s Q) BG s:=by
 refine F3 (R.inst a c h) λp m N d=>?_;refine AJ (Ph (Pj N) x) λY X hl=>?_;refine Cp (F.cls c (R.EF a c h).1) λc1 t A0 L=>?_;refine Ac (λZ U=>?_) (F.A4 c (R.EF a c h).1 i x W S);haveI C:InstAt s.heap a (instObj c (D a)) c (some Y):=⟨p,rfl,rfl,X⟩;refine set_plain (R.In F) C L (osa_open (s:={s with toks:=s.toks+1}) (R.In F) C A0 U λb=>?_);refine AJ (any_some t) λcd f g=>?_;refine AR (An (AR (AR (wpAny_loadPart p (AR ((looks_clsIn (R.In F) f).at ?_))))));refine(g).symm▸?_;refine An (a:=some (D a)) (AR (An (AR ?_)));refine wpAny_nsSet1 N λr T H=>?_;haveI H:Heap.SameBut (D a) s.heap r:=H;refine Ac (λj kT=>?_) (R.uF h d W S w H.extBut T);obtain ⟨M,G⟩:∃M,r.Ns1 (D a) M/\∀y,y∉CJ->M y=none:=⟨_,T,λy O=>by
  refine(?_:(if y=x then some I else m y)=none);rw[A5 (λ(z:y=x)=>O (z▸Bj W))];exact d.2 y O⟩
 refine Ke (bf G.1 G.2) λo' yj yk P l o=>?_;refine AR (wpAny_lookBehind P (by rw[l];exact pastItsLine_dict (by rw[Eo];exact A3 0x1080820000005180281904300441 [_] [] o)) (An ?_));exact(λZ E=>E _ D V j (λZ E=>E (λb oa e n=>(H.2 b (λz=>n (z▸N2 h))).trans e) (λb x=>.inl x) rfl rfl))
end
def bh{P:Program}{w:World}{A:Around}{E:Value->Shared->Prop}{s:Shared}{l:Addr}{C:Array Value}{n j:Nat}{t:Tok}{v:Value}{Q:Unit->Shared->Prop}(p:IsL s.heap l C n)
  (f:Builtin.List.listFitsIndex (j:Int)=true) (r:j<C.size) (h:Q () {s with heap:=s.heap.update l (Obj.mapSeq (·.setIfInBounds j v))}):
  wpAny (model P w) A (setItem (.ref l) (.int j t) v) Q E s:=by
 haveI H:s.heap.IsList l C:=IsL.isList p;haveI W:C[j]?=some C[j]:=Array.getElem?_eq_getElem r;unfold setItem
 try with_reducible refine ER ?_
 first| refine AR (An ?_)| skip
 refine AR (wpAny_sequenceKey H.typeIs (by decide) ?_);refine AR (wpAny_callSpecial?_slot (name:=Str.ofString "__setitem__") H.typeIs slot_list_setitem
  (wpAny_call_entry slot_list_setitem H.typeIs entry_list_setitem ?_ (args_list_setitem _ _ _)))
 unfold Builtin.«list.__setitem__»;haveI g:Builtin.List.listBlankSlotArgs "__setitem__" 2 ⟨[.ref l,.int j t,v],[]⟩=pure (.ref l,[.int j t,v]):=by rfl
 refine(g).symm▸?_;refine AR ?_;refine An ?_;refine AR ?_;refine @wpAny_listSubscript_int (model P w) A.in1 E s (j:Int) t _ f ?_;refine AR (AR (wpAny_seqItemAt p rfl (An ?_)));refine(W).symm▸?_;refine AR (wpAny_setSeqItemAt p rfl ?_)
 first
  | exact AR (An (An ⟨.none,rfl,An h⟩))
  | exact An ⟨.none,rfl,An h⟩
section
variable{B:Av}{K:Frag}{D:Addr->Addr}{σ:AH}{s s':Shared}{A:Around}{a:Addr}{Q:PE}
def tooBig(h:Heap):h.get? h.objs.size=none:=by
 cases e:h.get? h.objs.size with
 | none=>rfl
 | some o=>exact Ad (Cm e) (Nat.lt_irrefl _)
def L0(R:AB B D σ s.heap)(e:σ.A1 a=some u){C:Array Value}(p:IsL s.heap a C n)(f:Array Value->Array Value)(h:f C=Hy.toArray)(r:Af s.heap l' Hy)(t:AF s.heap v cv)(H:Q v (σ.uL a l'))(E:s'.heap=s.heap.update a (Obj.mapSeq f):=by rfl)(T:s'.gens=s.gens:=by rfl)(l:s'.os=s.os:=by rfl):AS B D σ s Q cv s':=by
 haveI S:=Heap.SameBut.update s.heap a (Obj.mapSeq f);haveI P:=IsL.update p f;have P:=(h)▸P;refine Ac (λj K=>?_) (R.uL e S.extBut P r);refine(λZ I=>I v (σ.uL a l') D H (by rw[E];exact j) (λZ I=>I (λb o q N=>?_) (λb x=>?_) T l) (by rw[E];exact t.mono K))
 ·rw[E];exact S.extBut b o (λz=>N (z▸Km e)) q
 ·obtain x| rfl:=Kp x;exact .inl x;exact .inl (Km e)
def HN(R:AB B D σ s.heap){l:List AV}{vs:List Value}(r:Af s.heap l vs)(H:∀a,σ.fresh a->Q (.obj a) (σ.uL a l))
  (e:s'.heap=s.heap.push {cls:=.type "list",data:=.seq vs.toArray}:=by rfl) (E:s'.gens=s.gens:=by rfl) (m:s'.os=s.os:=by rfl):AS B D σ s Q (.ref s.heap.objs.size) s':=by
 haveI h:=tooBig s.heap;haveI k:∀b o,s.heap.get? b=some o->(s.heap.push {cls:=.type "list",data:=.seq vs.toArray}).get? b=some o:=λb o q=>CZ _ q;refine Ac (λj K=>?_) (R.nL h (λb o Z q=>k b o q) (IsL.new s.heap vs.toArray) r);refine(λZ I=>I (.obj s.heap.objs.size) _ D (H _ (Ep (R.free h))) (by rw[e];exact j) (λZ I=>I (λb o q Z=>by rw[e];exact k b o q) (λb x=>?_) E m) (.obj _));obtain x| rfl:=Kp x;exact .inl x;exact .inr h
def bj(R:AB B D σ s.heap)(r:Af s.heap l v)(h:Q (.AA l) σ)(e:s'.heap=s.heap.push {cls:=.type "tuple",data:=.seq v.toArray}:=by rfl)(E:s'.gens=s.gens:=by rfl)(m:s'.os=s.os:=by rfl):AS B D σ s Q (.ref s.heap.objs.size) s':=by
 haveI k:∀b o,s.heap.get? b=some o->(s.heap.push {cls:=.type "tuple",data:=.seq v.toArray}).get? b=some o:=λb o q=>CZ _ q;refine AS.grown h R (λb o q=>by rw[e];exact k b o q) ?_ E m;refine(e).symm▸?_;exact .AA ⟨_,ED _ rfl,rfl,rfl⟩ (r.mono (BM.of k))
def yl{h:Heap}{l:List AV}{t:Addr}(x:AF h (.AA l) (.ref t)):∃v,IsTup h t (List.toArray v)/\Af h l v:=by
 cases x with
 | AA p q=>exact⟨_,p.AA,q⟩
def AB.list(R:AB B D σ s.heap)(e:σ.A1 a=some u):∃v n,IsL s.heap a (List.toArray v) n/\Af s.heap u v:=R.A1 a u e
def EH(h:room n):n<=sizeLine:=by unfold room at h;rw[Eo];exact A3 0x880000014600a3d09008300441 [_] [] h
def bk(R:AB B D σ s.heap)(e:σ.A1 a=some u)(H:room u.length)(O:AF s.heap y c)(h:Q .none (σ.uL a (u++[y]))):
  ∃C n,C.size<=sizeLine/\IsL s.heap a C n/\AS B D σ s Q .none {s with heap:=s.heap.update a (Obj.mapSeq λx=>x.push c)}:=by
 refine B9 (R.list e) λv n p r=>?_;exact⟨_,n,by rw[BH,r.length];exact EH H,p,L0 R e p (λx=>x.push c) (Hy:=v++[c]) (by simp) (r.append (.cons O .nil)) .none h⟩
def ym(i:Int)(n:Nat):seqIndex? i n=BF i n:=by
 unfold seqIndex? BF;by_cases h:i<0
 ·rw[A6 h];by_cases H: -(n:Int)<=i
  ·rw[A6 (by simp;exact AK 0x1cc280282802012d0500402001800004b0088500441 [_] [_] h H),A5 (by exact A3 0x4580400300000840 [] [_] h),A6 H]
  ·rw[A5 (by simp;exact A3 0x24b41401008a00ad05004020008b0088500441 [_] [_] H),A5 (by exact A3 0x4580400300000840 [] [_] h),A5 H]
 ·rw[A5 h];by_cases H:i<n
  ·rw[A6 (by simp;exact AK 0x1cc2802012c020008c000026140100841 [_] [_] h H),A6 (by exact A3 0xb008002300000840 [] [_] h),A6 H]
  ·rw[A5 (by simp;exact A3 0x125804500560100046140100841 [_] [_] H),A6 (by exact A3 0xb008002300000840 [] [_] h),A5 H]
def place_lt(h:BF i n=some j):j<n:=by
 unfold BF at h;split at h
 ·split at h
  ·cases h;exact AK 0x24012804b008006140100841 [_] [_] (by assumption) (by assumption)
  ·cases h
 ·split at h
  ·cases h;exact AK 0x9004a828020111601000b0088500441 [_] [_] (by assumption) (by assumption)
  ·cases h
set_option tactic.hygienic true in
def bp(R:AB B D σ s.heap){u:List AV}(e:σ.A1 a=some u){i:Int}{t:Tok}(H:word i){j:Nat}(h:BF i u.length=some j){r:AV}(v:u[j]?=some r)(T:Q r σ):
  wpAny (model B.prog B.w) A (getItem (.ref a) (.int i t)) (AS B D σ s Q) BG s:=by
 refine B9 (R.list e) λd n p V=>?_;refine AJ (V.get v) λc S l=>?_;unfold word at H;unfold BF at h;split at h
 ·rename_i E;split at h
  ·cases h;exact wpAny_getItem_list (IsL.isList p) E (A3 0x18800000000000000068c027308000000000000000d1804b0088400000000000000068c40 [] [_] H) (by simpa using S) (AS.pure T R l)
  ·cases h
 ·split at h
  ·cases h;refine wpAny_getItem_list_neg (IsL.isList p) (A3 0xc0000222c0200040 [] [_] (by assumption)) (by rw[BH,V.length];exact A3 0x580442802b0088500441 [_] [_] (by assumption)) (A3 0x2c02220000000000000001a37308000000000000000d1804b0088400000000000000068c40 [] [_] H) ?_ (AS.pure T R l);rw[BH,V.length];simpa using S
  ·cases h
def bq(R:AB B D σ s.heap){u:List AV}(e:σ.A1 a=some u){i:Int}{t:Tok}(K:word i)(H:0<=i){j:Nat}(h:BF i u.length=some j){y:AV}{c:Value}(O:AF s.heap y c){Q:AH->Prop}(T:Q (σ.uL a (u.set j y))):
  wpAny (model B.prog B.w) A (setItem (.ref a) (.int i t) c) (Hx B D σ s Q) BG s:=by
 refine B9 (R.list e) λV n p r=>?_;haveI X:=place_lt h;haveI P:i=j:=by
  unfold BF at h;rw[A6 H] at h;split at h
  ·cases h;exact A3 0x1a52804012c0200040 [] [_] H
  ·cases h
 subst P;refine bh p (fitsIndex_of H (by unfold word at K;exact A3 0xc40000000000000003465005cc20000000000000003465005650048400000000000000068c41 [_] [] K)) (by rw[BH,r.length];exact X) ?_;refine(L0 (Q:=λZ S=>Q S) (v:=.none) (cv:=.none) (s':={s with heap:=s.heap.update a (Obj.mapSeq (·.setIfInBounds j c))}) R e p (·.setIfInBounds j c) (Hy:=V.set j c) (by simp) (r.set j O) .none T) _ λv S d q l x Z=>?_;exact(λZ I=>I S d q l x)
end
end
section
open PySem.SeqAt
section
variable{B:Av}{K:Frag}{D:Addr->Addr}{σ:AH}{s s':Shared}{A:Around}{a:Addr}{Q:PE}
open Classical in
def all_eq{l l2:List AV}:((List.range (min l.length l2.length)).all (λj=>decide (l[j]?=l2[j]?))&&l.length==l2.length)=decide (l=l2):=by
 rw[Bool.eq_iff_iff];simp only[Bool.and_eq_true,List.all_eq_true,List.mem_range,decide_eq_true_eq,beq_iff_eq];constructor
 ·intro A;refine Ac (λQ H=>?_) A;apply List.ext_getElem?;intro j;by_cases h:j<l.length
  ·exact Q j (AK 0x4a84108401508210a421004c3 [_,_,_] [] H h)
  ·rw[EP (by exact A3 0x8084012240108482 [_,_] [] h),EP (by exact AK 0x1010802a0044122441084c3 [_,_,_] [] H h)]
 ·rintro rfl;exact⟨λZ Z=>rfl,rfl⟩
open Classical in
def all_eq'{l L:List AV}(e:l.length=L.length):(List.range l.length).all (λj=>decide (l[j]?=L[j]?))=decide (l=L):=by
 haveI:=all_eq (l:=l) (l2:=L);rw[<-e,Nat.min_self,beq_self_eq_true,Bool.and_true] at this;exact this
def Af.get'(x:Af h l V)(e:i<V.length):∃v,l[i]?=some v/\AF h v V[i]:=by
 have:i<l.length:=by rw[<-x.length];exact e
 refine AJ (x.get (Aw this)) λc p q=>?_;refine AW (D6.mp p) λZ r=>?_;exact⟨_,Aw this,r▸q⟩
def Uy(C:∀{x y:AV}{c:Value},AF h x c->AF h y c->CR n x y->x=y)(l L:List AV)(V:List Value)(p:Af h l V)(q:Af h L V)(H:∀(j:Nat)(x y:AV),l[j]?=some x->L[j]?=some y->CR n x y):l=L:=by
 induction l generalizing L V with
 | nil=>cases p;cases q;rfl
 | cons x l m=>
  cases p with
  | cons a b=>
   cases q with
   | @cons y _ L _ A B=>rw[C a A (H 0 x y rfl rfl),m L _ b B λj u v p q=>H (j+1) u v (p) (q)]
def AV.Uz{v:AV}{i:List AV}(h:v.D9=some i):v= .AA i:=by cases v<;>first| (cases h;done)| (cases h;rfl)
def V1(h:CR n x y)(H:x.D9=none):CR 0 x y:=by
 cases n<;>cases x<;>first| (cases H;done)| (cases y<;>first| exact h| exact h.elim)
def V4{n:Nat}{l:List AV}{y:AV}(h:CR (n+1) (.AA l) y):∃L,y= .AA L/\∀(j:Nat) (x y:AV),l[j]?=some x->L[j]?=some y->CR n x y:=by
 cases y<;>first| exact⟨_,rfl,h⟩| exact h.elim
def AF.DU(x:AF h (.int i) c):∃t,c= .int i t:=by cases x;exact⟨_,rfl⟩
def AF.L1(x:AF h (.bool i) c):c= .bool i:=by cases x;rfl
def AF.V6(x:AF h .none c):c= .none:=by cases x;rfl
def V7{P:AV->AV->Prop}{x y:AV}(C:CR 0 x y)(h:P .none .none)(H:∀a b,P (.bool a) (.bool b))(K:∀a b,P (.int a) (.int b)):P x y:=by
 cases x<;>cases y<;>first| exact C.elim| exact h| exact H _ _| exact K _ _
def V8(W:AF h x c)(O:AF h y c)(H:CR 0 x y):x=y:=
 V7 (P:=λx y=>AF h x c->AF h y c->x=y) H (λZ Z=>rfl) (λZ Z p q=>AO AV.bool (Value.bool.inj (p.L1.symm.trans q.L1)))
  (λZ Z p q=>p.DU.elim λZ e=>q.DU.elim λZ E=>AO AV.int (Value.int.inj (e.symm.trans E)).1) W O
def IsT.same{h:Heap}{a:Addr}{U v:List Value}{m n:Nat}(p:IsT h a U.toArray m)(q:IsT h a v.toArray n):U=v:=by
 obtain ⟨o,p,_,P⟩:=p;obtain ⟨O,q,_,Q⟩:=q;cases BL (p.symm.trans q);cases P.symm.trans Q;rfl
def Pm(n:Nat)(W:AF h x c)(O:AF h y c)(H:CR n x y):x=y:=by
 induction n generalizing x y c with
 | zero=>exact V8 W O H
 | succ n C=>
  cases e:x.D9 with
  | none=>exact V8 W O (V1 H e)
  | some l=>
   rcases AV.Uz e with rfl
   refine AJ (V4 H) λL A H=>?_;subst A;cases W with
   | @AA _ ad v m p r=>
    cases O with
    | @AA _ _ V m2 P r2=>
     cases p.same P
     (refine(Uy (λa b c=>C a b c) l L v r r2 H).symm▸?_;try (with_reducible rfl))
open Classical in
def V9(H:AF s.heap x c)(O:AF s.heap y I)(h:CR 0 x y):EqAt A s c I (decide (x=y)):=
 V7 (P:=λx y=>AF s.heap x c->AF s.heap y I->EqAt A s c I (decide (x=y))) h
  (λp q=>by rw[p.V6,q.V6,Bg rfl];exact EqAt.same _)
  (λa b p q=>by
   haveI e:(a==b)=decide ((AV.bool a)= .bool b):=by cases a<;>cases b<;>simp
   rw[p.L1,q.L1,<-e];exact EqAt.bool_bool a b)
  (λa b p q=>by
   refine AW p.DU λt E=>?_;refine AW q.DU λu R=>?_;haveI e:(a==b)=decide ((AV.int a)= .int b):=by simp[Bool.beq_eq_decide_eq]
   rw[E,R,<-e];exact(MeetsSeq.EqGives.int a b t u).at A s) H O
open Classical in
def VA:∀(n:Nat) {A:Around} {s:Shared} {x y:AV} {I D:Value},A.units+n<cLine->AF s.heap x I->AF s.heap y D->CR n x y->EqAt A s I D (decide (x=y)):=by
 intro n;induction n with
 | zero=>exact λZ H O h=>V9 H O h
 | succ n C=>
  intro A s x y I D E H O h;cases e:x.D9 with
  | none=>exact V9 H O (V1 h e)
  | some l=>
   rcases AV.Uz e with rfl
   refine AJ (V4 h) λL F h=>?_;subst F;cases H with
   | @AA _ ad v m p r=>
    cases O with
    | @AA _ B t m2 P r2=>
     by_cases R:ad=B
     ·rcases R with rfl
      cases p.same P;cases Uy (λa b c=>Pm n a b c) l L v r r2 h;rw[Bg rfl];exact EqAt.same _
     ·refine EqAt.of_refs R ?_;haveI T:=RcAt.tuples (A:=A) (s:=s) (l:=ad) (b:=B) (items:=v.toArray) (items2:=t.toArray) (e:=λj=>decide (l[j]?=L[j]?)) p.AA P.AA (A3 0x121080290850808041004c3 [_,_,_] [] E) (λj Q o=>by
       refine AJ (r.get' (by rw[BH] at Q;exact Q)) λV g q1=>?_;refine AJ (r2.get' (by rw[BH] at o;exact o)) λN G w=>?_;haveI:=C (A:=A.in1) (by rw[Around.in1_units];exact A3 0x4882808501000291050808021004c3 [_,_,_] [] E) q1 w (h j V N g G);rw[g,G];simpa using this)
      rw[BH,BH,r.length,r2.length,all_eq] at T;exact(ES.2 ⟨AO AV.AA,AV.AA.inj⟩:decide (l=L)=decide (AV.AA l=AV.AA L))▸T
end
structure Fm where
 ns:Addr
 cell:Option (Str×Addr)
def br(e:Env)(S:Scope)(L:Fm)(l:Prop):Prop:=
 (e.scope=S)->(S.kind= .function)->(e.locals=L.ns)->(e.globals=mainGlobals)->(e.builtins=builtinsNs)->(e.frame=some L.ns)->(∀x c,L.cell=some (x,c)->S.names.lookup x=some .cell/\e.cells.lookup x=some c)->(∀x,S.names.lookup x=some .cell->∃c,L.cell=some (x,c))->l
def Bv(e:Env)(S:Scope)(L:Fm):Prop:=Ch (br e S L)
section
variable{L:Fm}(zh:Bv env scope L)
def Bv.sc:=zh _ λz Z Z Z Z Z Z Z=>z
def Bv.kind:=zh _ λZ z Z Z Z Z Z Z=>z
def Bv.locals:=zh _ λZ Z z Z Z Z Z Z=>z
def Bv.globals:=zh _ λZ Z Z z Z Z Z Z=>z
def Bv.builtins:=zh _ λZ Z Z Z z Z Z Z=>z
def Bv.frame:=zh _ λZ Z Z Z Z z Z Z=>z
def Bv.cells:=zh _ λZ Z Z Z Z Z z Z=>z
def Bv.has:=zh _ λZ Z Z Z Z Z Z z=>z
end
def bt(B:Av)(n:List Str)(L:Fm)(D:Addr->Addr)(S:AH)(J:AE)(h:Heap)(l:Prop):Prop:=
 ∀(m:Str->Option Value),h.Ns L.ns m->¬B2 S D L.ns->B.h0.get? L.ns=none->
  (∀x c,L.cell=some (x,c)->c≠L.ns/\¬B2 S D c/\B.h0.get? c=none/\∃o v,h.get? c=some o/\o.data= .cell v)->
  (∀i v,Cz J i=some v->∃x I,n[i]?=some x/\AF h v I/\(((∀c,L.cell≠some (x,c))/\m x=some I)\/∃c o,L.cell=some (x,c)/\h.get? c=some o/\o.data= .cell (some I)))->l
def B5(B:Av)(n:List Str)(L:Fm)(D:Addr->Addr)(S:AH)(J:AE)(h:Heap):Prop:=Ch (bt B n L D S J h)
def B5.ext{L:Fm}(f:B5 B N L D S J s.heap)(R:AB B D S s.heap)(x:Ext S D s E l s'):B5 B N L l E J s'.heap:=by
 refine f _ λM j A0 O C h=>?_;haveI t:=R.DI rfl x;have g:∀b o,s.heap.get? b=some o->¬B2 S D b->¬B2 E l b:=λb o e n q=>by
  rcases x.own b q with q| q
  ·exact n q
  ·exact nO e q
 refine(λZ G=>G M ?_ ?_ O (λy c e=>?_) (λi v e=>?_))
 ·obtain ⟨o,m,p,H,r⟩:=j;exact⟨o,m,p,x.Ao _ _ H A0,r⟩
 ·obtain ⟨o,m,p,H,r⟩:=j;exact g _ _ H A0
 ·obtain ⟨a,b,d,o,v,H,hd⟩:=C y c e;exact⟨a,g _ _ H b,d,o,v,x.Ao _ _ H b,hd⟩
 ·refine C2 (h i v e) λy F a c b=>?_;refine⟨y,F,a,c.mono t,b.imp id ?_⟩;intro A;refine C2 A λI o K T U=>?_;exact⟨I,o,K,x.Ao _ _ T (C y I K).2.1,U⟩
section
variable(I:Ag)(B:Av)(K:Frag)
def AD(l:Scope)(n:List Str)(r:Nat)(m:ME)(e:Expr):Prop:=
 ∀(E:Env) (L:Fm) (A:Around) (Q:PE) (J:AE) (S:AH) (D:Addr->Addr) (s:Shared),Bv E l L->Bn r A->B3 I m Q J S->AB B D S s.heap->B5 B n L D S J s.heap->
  wpAny (model B.prog B.w) A (eval e E) (AS B D S s Q) BG s
def E0(l:Scope)(n:List Str)(r:Nat)(m:ME)(e:Expr):Prop:=
 ∀(E:Env) (L:Fm) (A:Around) (Q:Bool->AH->Prop) (J:AE) (S:AH) (D:Addr->Addr) (s:Shared),Bv E l L->Bn r A->B3 I m (λv S=>pO v.bool? λb=>Q b S) J S->AB B D S s.heap->B5 B n L D S J s.heap->
  wpAny (model B.prog B.w) A (isTrue e E (eval e E)) (bb B D S s Q) BG s
end
section
variable{I:Ag}{B:Av}{K:Frag}{scope:Scope}{names:List Str}{r:Nat}
def AV.F5{v:AV}{i:Int}(h:v.int?=some i):v= .int i:=by cases v<;>first| exact AO AV.int (BL h)| exact nO h rfl
def AV.VB{v:AV}{i:Bool}(h:v.bool?=some i):v= .bool i:=by cases v<;>first| exact AO AV.bool (BL h)| exact nO h rfl
def AV.G1{v:AV}{i:Addr}(h:v.BS=some i):v= .obj i:=by cases v<;>first| exact AO AV.obj (BL h)| exact nO h rfl
def AV.GZ{v:AV}{i:List AV}(h:v.D9=some i):v= .AA i:=by cases v<;>first| exact AO AV.AA (BL h)| exact nO h rfl
def AV.VC{v:AV}{i:List Int}(h:v.N6=some i):v= .bytes i:=by cases v<;>first| exact AO AV.bytes (BL h)| exact nO h rfl
def AF.F6(x:AF h (.obj i) c):c= .ref i:=by cases x;rfl
def Ah{A:Type}{o:Option A}{k:A->Prop}{G:Prop}(w:pO o k)(f:∀x,o=some x->k x->G):G:=(HL w).elim λx h=>f x h.1 h.2
@[elab_as_elim] theorem AF.CS{h:Heap}{x:AV}{c:Value}{P:Int->Prop}{G:Value->Prop}(v:AF h x c)(w:pO x.int? P)(f:∀i t,P i->G (.int i t)):G c:=
 Ah w λi e q=>(AF.DU (AV.F5 e▸v)).elim λt e=>by rw[e];exact f i t q
@[elab_as_elim] theorem AF.CG{h:Heap}{x:AV}{c:Value}{P:Addr->Prop}{G:Value->Prop}(v:AF h x c)(w:pO x.BS P)(f:∀i,P i->G (.ref i)):G c:=
 Ah w λi e q=>by cases AF.F6 (AV.G1 e▸v:AF h (.obj i) c);exact f i q
@[elab_as_elim] theorem AF.Iu{h:Heap}{x:AV}{c:Value}{P:Bool->Prop}{G:Value->Prop}(v:AF h x c)(w:pO x.bool? P)(f:∀i,P i->G (.bool i)):G c:=
 Ah w λi e q=>by cases AF.L1 (AV.VB e▸v:AF h (.bool i) c);exact f i q
@[elab_as_elim] theorem AV.N9{h:Heap}{x:AV}{c:Value}{P:Addr->Prop}{W:List Int->Prop}{G:Value->Prop}(v:AF h x c)(w:match (generalizing:=false) x with| .obj o=>P o| .bytes u=>W u| _=>False)
  (f:∀(u:List Int) (b:Array UInt8) t,b.toList.map (λx=>(x.toNat:Int))=u->W u->G (.bytes b t)) (g:∀o,P o->G (.ref o)):G c:=by
 cases v<;>first| exact False.elim w| skip
 ·exact f _ _ _ (by assumption) w
 ·exact g _ w
def B4(H:AD I B scope names r m a){L:Fm}(U:Bv e scope L)(v:Bn r A)(h:B3 I m Q J E)(R:AB B D E s.heap)(f:B5 B names L D E J s.heap)(k:∀c S x t d,Q x t->AB B d t S.heap->Ext E D s t d S->AF S.heap x c->T c S):wpAny (model B.prog B.w) A (eval a e) T BG s:=
 B6 (H e L A _ J E D s U v h R f) (λc S y=>y _ λx t d N o X V=>k c S x t d N o X V) λZ Z x=>x
def NA{m:ME}{a:Expr}(H:AD I B scope names r m a){W:AV->AH->Prop}{Q:PE}{T:Value->Sem Value}{e:Env}{L:Fm}{A:Around}{J:AE}{S:AH}{D:Addr->Addr}{s:Shared}
  (V:Bv e scope L) (t:Bn r A) (h:B3 I m (λx S=>W x S) J S) (R:AB B D S s.heap) (f:B5 B names L D S J s.heap)
  (O:∀x F d E s',W x E->AB B d E s'.heap->B5 B names L d E J s'.heap->AF s'.heap x F->wpAny (model B.prog B.w) A (T F) (AS B d E s' Q) BG s'):
  wpAny (model B.prog B.w) A (eval a e) (λc U=>wpAny (model B.prog B.w) A (T c) (AS B D S s Q) BG U) BG s:=
 B4 H V t h R f λc U x w G N o X v=>B6 (O x c G w U N o (f.ext R X) v) (λC A0 q=>AS.trans X q) λZ Z x=>x
def EX{m M:ME}{a b:Expr}(N:AD I B scope names r m a)(j:AD I B scope names r M b){W:AV->AV->AH->Prop}{Q:PE}{T:Value->Value->Sem Value}{e:Env}{L:Fm}{A:Around}{J:AE}{S:AH}{D:Addr->Addr}{s:Shared}
  (U:Bv e scope L) (v:Bn r A) (h:B3 I m (λx S=>B3 I M (λy S=>W x y S) J S) J S) (R:AB B D S s.heap) (f:B5 B names L D S J s.heap)
  (A0:∀x y G H d E s',W x y E->AB B d E s'.heap->B5 B names L d E J s'.heap->AF s'.heap x G->AF s'.heap y H->wpAny (model B.prog B.w) A (T G H) (AS B d E s' Q) BG s'):
  wpAny (model B.prog B.w) A (eval a e) (λc V=>wpAny (model B.prog B.w) A (eval b e) (λF w=>wpAny (model B.prog B.w) A (T c F) (AS B D S s Q) BG w) BG V) BG s:=
 B4 N U v h R f λc V x Bk n O o X P=>B4 j U v O o (f.ext R X) λF w y l C Y g t K=>B6 (A0 x y c F C l w Y g ((f.ext R X).ext o t) (P.mono (o.DI rfl t)) K) (λp D0 q=>AS.trans (X.trans t) q) λZ Z x=>x
def bu:AD I B scope names r (.k (.int i)) (.Constant (.int i) k p):=λe L A Q J S D s H t h R f=>
 wpAny_Constant_int (AS.pure h R (.int i _))
def s_bool:AD I B scope names r (.k (.bool b)) (.Constant (.bool b) k p):=λe L A Q J S D s H t h R f=>
 Constant_bool (AS.pure h R (.bool b))
def bw:AD I B scope names r (.k .none) (.Constant .none k p):=λe L A Q J S D s H t h R f=>
 Constant_none (AS.pure h R .none)
def Pn{i:Nat}{x:Str}{p:Pos}(W:names[i]?=some x)(M:scope.names.lookup x=some .local)(hd:(x==("__debug__":Str))=false):AD I B scope names r (.J i) (.Name x p):=λm L A Q J O D s H t h R f=>by
 refine Ah h λv e U=>?_;refine f _ λG n A0 N C S=>?_;refine C2 (S i v e) λy F K T E=>?_;obtain rfl:y=x:=BL (K.symm.trans W);obtain ⟨_,E⟩| ⟨c,o,E,_⟩:=E
 ·refine wpAny_Name (HD (by rw[H.sc];exact H.kind) (by unfold Env.kindOf;rw[H.sc];exact M) (by rw[H.locals];exact n) E (AS.pure U R T)) hd
 ·have:=(H.cells _ _ E).1;rw[M] at this;cases this
def bx{i:Nat}{x:Str}{p:Pos}(W:names[i]?=some x)(M:scope.names.lookup x=some .cell)(hd:(x==("__debug__":Str))=false):AD I B scope names r (.J i) (.Name x p):=λm L A Q J A0 D s H t h R f=>by
 refine Ah h λv e U=>?_;refine f _ λG a N n C S=>?_;refine C2 (S i v e) λy F K T E=>?_;obtain rfl:y=x:=BL (K.symm.trans W);obtain ⟨E,_⟩| ⟨c,o,E,e4,e5⟩:=E
 ·refine AW (H.has _ M) λc C=>?_;exact Ad C (E c)
 ·exact wpAny_Name (wpAny_loadName_cell (by rw[H.sc];exact H.kind) (by unfold Env.kindOf;rw[H.sc];exact M) (H.cells _ _ E).2 ⟨o,e4,e5⟩ (AS.pure U R T)) hd
structure Bw(B:Av) where
 mg:Str->Option Value
 mb:Str->Option Value
 g:B.h0.Ns mainGlobals mg
 b:B.h0.Ns builtinsNs mb
def bz(G:Bw B)(M:scope.names.lookup x=some .globalImplicit)(hd:(x==("__debug__":Str))=false)(o:G.mg x=some c)(p:AF B.h0 v c):
  AD I B scope names r (.k v) (.Name x P):=λe L A Q J S D s H t h R f=>
 GS (by rw[H.sc];exact H.kind) (by unfold Env.kindOf;rw[H.sc];exact M)
  (Calls.loadGlobal_global (by rw[H.globals];exact G.g.keeps R.Ao) o (AS.pure h R (p.mono (BM.of R.Ao)))) hd
noncomputable def Dv.py:Dv->Operator
 | .add=>.Add| .sub=>.Sub| .mul=>.Mult| .fdiv=>.FloorDiv| .mod=>.Mod| .Ab=>.BitAnd| .AQ=>.BitOr| .shl=>.LShift| .shr=>.RShift| .pow=>.Pow
def VD(h:word i):i.natAbs<2^63:=by unfold word at h;omega
def c6{o:Dv}{i j:Int}(H:o.ok i j){A:Around}{s:Shared}{t u:Tok}{Q:Value->Shared->Prop}{E:Value->Shared->Prop}(h:Q (.int (o.val i j) s.toks) {s with toks:=s.toks+1}):
  wpAny (model B.prog B.w) A (binaryOp o.py (.int i t) (.int j u)) Q E s:=by
 cases o with
 | add=>exact wpAny_add_int h
 | sub=>exact sub_int' h
 | mul=>
  exact P.mul_int h (IntMulOk.of_left (intBits_le_64 (by haveI:=H.1.1;exact A3 0x600448000000000000000346b0088400000000000000068c40 [] [_] this) (by haveI:=H.1.2;exact A3 0x19000000000000000068c02610000000000000001a300840 [] [_] this)))
 | fdiv=>exact floordiv_int H.1 h (.inl (PyProof.noPylong_small H.2))
 | mod=>exact mod_int' H h
 | Ab=>exact and_int h
 | AQ=>exact or_int h
 | shl=>exact lshift_int_small H.2.1 (by haveI:=H.2.2;exact A3 0x17e848041804bfa04300840 [] [_] this) (by haveI:=VD H.1;exact A3 0x13000000000000000068c014a0000000000000001a300441 [_] [] this) h
 | shr=>exact rshift_int H h
 | pow=>exact pow_int_small H.2.1 (by haveI:=H.2.2;exact A3 0x17e848041804bfa04300840 [] [_] this) (by haveI:=VD H.1;exact A3 0x13000000000000000068c014a0000000000000001a300441 [_] [] this) h
end
section
variable{I:Ag}{B:Av}{K:Frag}{scope:Scope}{names:List Str}{r:Nat}
def c7{m M:ME}(H:AD I B scope names r m a)(c:AD I B scope names r M b):AD I B scope names r (.bin o m M) (.BinOp a o.py b p):=λe L A Q J G D s U v h R f=>by
 refine wpAny_BinOp (EX H c U v h R f λx y E F n A0 s' w l C V d=>?_);refine AF.CS V w λi t w=>AF.CS d w λj u w=>?_;refine Ac (λS T=>?_) w;exact c6 S (AS.pure T l (.int _ _))
def c8(H:AD I B scope names r m a):AD I B scope names r (.inv m) (.UnaryOp .Invert a p):=λe L A Q J E D s U v h R f=>by
 refine wpAny_UnaryOp (NA H U v h R f λx c d G s' w j F V=>?_);refine AF.CS V w λi t S=>?_;exact invert_int (AS.pure S j (.int _ _))
def cB(H:AD I B scope names r m a):AD I B scope names r (.neg m) (.UnaryOp .USub a p):=λe L A Q J E D s U v h R f=>by
 refine wpAny_UnaryOp (NA H U v h R f λx c d G s' w j F V=>?_);refine AF.CS V w λi t S=>?_;exact P.neg_int (AS.pure S j (.int _ _))
def cC(H:AD I B scope names r m a):AD I B scope names r (.not m) (.UnaryOp .Not a p):=λe L A Q J E D s U t h R f=>by
 refine wpAny_UnaryOp (NA H U t h R f λx c d G s' w j F v=>?_);refine AF.Iu v w λi S=>?_;exact not_of (FQ (AS.pure S j (.bool _)))
noncomputable def GW.py:GW->CmpOp
 | .eq=>.Eq| .ne=>.NotEq| .lt=>.Lt| .le=>.LtE| .gt=>.Gt| .ge=>.GtE
def Hz{op:GW}{i j:Int}{A:Around}{s:Shared}{t u:Tok}{Q:Value->Shared->Prop}{E:Value->Shared->Prop}(h:Q (.bool (op.val i j)) s):
  wpAny (model B.prog B.w) A (compareOp op.py (.int i t) (.int j u)) Q E s:=by
 cases op with
 | eq=>exact P.eq_int (by rw[Bool.beq_eq_decide_eq];exact h)
 | ne=>exact P.ne_int (by rw[bne,Bool.beq_eq_decide_eq];exact h)
 | lt=>exact P.lt_int h
 | le=>exact P.le_int h
 | gt=>exact P.gt_int h
 | ge=>exact P.ge_int h
def Po(o:GW)(b:Expr):behindInMarks o.py b=false:=by
 haveI e:(o.py==.In||o.py==.NotIn)=false:=by cases o<;>rfl
 cases b<;>first| rfl| exact(AO (λx=>(_&&x)&&_) e).trans (by rw[Bool.and_false,Bool.false_and])
def cD{m M:ME}(H:AD I B scope names r m a)(c:AD I B scope names r M b):AD I B scope names r (.cmp o m M) (.Compare a [o.py] [b] p):=λe L A Q J G D s U v h R f=>by
 refine Fy (EX H c U v h R f λx y E F n A0 s' w l C V d=>?_) (Po o b);refine AF.CS V w λi t w=>AF.CS d w λj u S=>?_;exact Hz (AS.pure S l (.bool _))
def cE{p q:GW}{m M E:ME}{a b c:Expr}{n:Pos}(O:AD I B scope names r m a)(e:AD I B scope names r M b)(C:AD I B scope names r E c):AD I B scope names r (.cmp3 p q m M E) (.Compare a [p.py,q.py] [b,c] n):=λenv L A Q J σ D s H t h R f=>by
 refine Compare_chain (ops:=[]) (rs:=[]) (B4 O H t h R f λy B8 xa Bk T P o x V=>?_) (Po q c);refine chain_link (B4 e H t P o (f.ext R x) λcb Bl ya DA U Y d X G=>?_);refine AF.CS (V.mono (o.DI rfl X)) Y λi ta w=>AF.CS G w λj u w=>?_;refine Ac (λl g=>?_) w;refine Hz (FQ ?_);cases v:p.val i j with
 | false=>
  rw[A5 (by decide)];exact AS.trans (x.trans X) (AS.pure (g v) d (.bool _))
 | true=>
  rw[A6 rfl];haveI F:=(f.ext R x).ext o X;refine chain_last (B4 C H t (l v) d F λcc D0 z Iv W w N K A0=>?_);refine AF.CS A0 w λnc oa S=>?_;exact Hz (AS.trans ((x.trans X).trans K) (AS.pure S N (.bool _)))
def cF{m M:ME}(N:AD I B scope names r m a)(c:AD I B scope names r M b)(S:behindInMarks (if n then .NotEq else .Eq) b=false):
  AD I B scope names r (.eqB n m M) (.Compare a [if n then .NotEq else .Eq] [b] p):=λe L A Q J G D s U t h R f=>by
 refine Fy (EX N c U t h R f λx y E F d A0 s' w l C v V=>?_) S;refine AF.Iu v w λi w=>AF.Iu V w λj H=>?_;cases n with
 | false=>exact eq_bool (AS.pure (by rw[Bool.false_xor] at H;rw[Bool.beq_eq_decide_eq];exact H) l (.bool _))
 | true=>exact ne_bool (AS.pure (by rw[Bool.true_xor] at H;rw[bne,Bool.beq_eq_decide_eq];exact H) l (.bool _))
def cG{S:AH}{x y:AV}{K:Bool->Prop}{G:Prop}(w:match (generalizing:=false) x,y with
   | .obj i,.obj j=>pO (S.cls i) λZ=>pO (S.cls j) λZ=>K (decide (i=j))
   | x,y=>pO (isA x y) λr=>K r) (p:∀r,isA x y=some r->K r->G) (o:∀i j c d,x= .obj i->y= .obj j->S.cls i=some c->S.cls j=some d->K (decide (i=j))->G):G:=by
 cases x<;>cases y<;>first| exact Ah w p| exact Ah w λc h w=>Ah w λd k w=>o _ _ c d rfl rfl h k w
def AF.NB(v:AF h x c)(e:x.nn=true):c= .none:=by cases v<;>first| rfl| cases e
def AF.VE(v:AF h x c)(e:x.oi=true):(plainIs .none c=true/\(Value.none==c)=false)/\plainIs c .none=true/\(c==Value.none)=false:=by cases v<;>first| exact⟨⟨rfl,rfl⟩,rfl,rfl⟩| cases e
def cH{h:Heap}{x y:AV}{c I:Value}{r:Bool}(e:isA x y=some r)(v:AF h x c)(u:AF h y I):plainIs c I=true/\(c==I)=r:=by
 unfold isA at e;cases a:x.nn&&y.nn with
 | true=>
  rw[a] at e;cases e;rw[v.NB (GP.1 a).1,u.NB (GP.1 a).2];exact⟨rfl,rfl⟩
 | false=>
  rw[a] at e;cases b:x.nn&&y.oi||y.nn&&x.oi with
  | true=>
   rw[b] at e;cases e;exact(Bool.or_eq_true_iff.1 b).elim (λw=>(v.NB (GP.1 w).1).symm▸(u.VE (GP.1 w).2).1) λw=>(u.NB (GP.1 w).1).symm▸(v.VE (GP.1 w).2).2
  | false=>rw[b] at e;cases e
def cI{n:Bool}{m M:ME}{a b:Expr}{o:Pos}(N:AD I B scope names r m a)(d:AD I B scope names r M b)(T:behindInMarks (if n then .IsNot else .Is) b=false):
  AD I B scope names r (.FV n m M) (.Compare a [if n then .IsNot else .Is] [b] o):=λW L A Q J g D s U A0 h R f=>by
 refine Fy (EX N d U A0 h R f λx y c F O K s' w l X v V=>?_) T;refine cG (K:=λr=>Q (.bool (n^^r)) K) w (λr e H=>?_) λi j Y cj E S G t H=>?_
 ·haveI p:=cH e v V;cases n with
  | false=>exact wpAny_is_plain p.1 (AS.pure (p.2▸Bool.false_xor r▸H) l (.bool _))
  | true=>exact wpAny_isNot_plain p.1 (AS.pure (p.2▸Bool.true_xor r▸H) l (.bool _))
 ·rw[AF.F6 (E▸v:AF _ (.obj i) c),AF.F6 (S▸V:AF _ (.obj j) F)];haveI P:=(l.inst _ _ G).1;haveI C:=(l.inst _ _ t).1;clear v V E S w;by_cases e:i=j
  ·subst e;cases n with
   | false=>exact wpAny_is_ref_self (AS.pure (by simpa using H) l (.bool _))
   | true=>exact wpAny_isNot_ref_self (AS.pure (by simpa using H) l (.bool _))
  ·cases n with
   | false=>exact wpAny_is_ref_other e P C (by simp) (AS.pure (by simpa [e] using H) l (.bool _))
   | true=>exact wpAny_isNot_ref_other e P C (by simp) (AS.pure (by simpa [e] using H) l (.bool _))
def cJ{m M:ME}(N:AD I B scope names r m a)(g:AD I B scope names r M (.BoolOp .And (b::F) p)):AD I B scope names r (.and m M) (.BoolOp .And (a::b::F) p):=λe L A Q J G D s H t h R f=>by
 refine BoolOp_and (B4 N H t h R f λT S x E d w o X v=>?_);refine AF.Iu v w λc w=>?_;obtain ⟨j,hf⟩:=w;refine FQ ?_;cases c with
 | true=>rw[A6 rfl];exact B6 (g e L A _ J E d S H t (j rfl) o (f.ext R X)) (λZ Z q=>AS.trans X q) λZ Z x=>x
 | false=>rw[A5 (by decide)];exact AS.trans X (AS.pure (hf rfl) o (.bool _))
def cK{m M:ME}(N:AD I B scope names r m a)(g:AD I B scope names r M (.BoolOp .Or (b::F) p)):AD I B scope names r (.or m M) (.BoolOp .Or (a::b::F) p):=λe L A Q J G D s H t h R f=>by
 refine BoolOp_or (B4 N H t h R f λT S x E d w o X v=>?_);refine AF.Iu v w λc w=>?_;obtain ⟨j,hf⟩:=w;refine FQ ?_;cases c with
 | true=>rw[A6 rfl];exact AS.trans X (AS.pure (j rfl) o (.bool _))
 | false=>rw[A5 (by decide)];exact B6 (g e L A _ J E d S H t (hf rfl) o (f.ext R X)) (λZ Z q=>AS.trans X q) λZ Z x=>x
def VF(H:AD I B scope names r m a):AD I B scope names r m (.BoolOp o [a] p):=λe L A Q J S D s U t h R f=>BoolOp_one (H e L A Q J S D s U t h R f)
def cL{m:ME}{a:Expr}(H:AD I B scope names r m a)(g:∀e W,isTrue a e W=(do let v<-W;standAt a.pos;holding [v] (truthy v))):E0 I B scope names r m a:=λe L A Q J G D s U t h R f=>by
 refine isTrue_plain (B4 H U t h R f λT Y x F d w o X V=>?_) (g e _);refine AF.Iu V w λc S=>?_;exact FQ (λZ E=>E F d S o X)
def cM(M:E0 I B scope names r m a):E0 I B scope names r (.not m) (.UnaryOp .Not a p):=λe L A Q J S D s U t h R f=>by
 haveI H:B3 I m (λv S=>pO v.bool? λb=>Q (!b) S) J S:=h;exact isTrue_not (B6 (M e L A (λb S=>Q (!b) S) J S D s U t H R f) (λc s' w=>w _ λa b q r x=>(λZ E=>E a b q r x)) λZ Z x=>x)
def cO{M m:ME}(N:E0 I B scope names r M a)(l:E0 I B scope names r m (.BoolOp .And (b::F) p)):E0 I B scope names r (.and M m) (.BoolOp .And (a::b::F) p):=λe L A Q J S D s H t h R f=>by
 refine isTrue_and (B6 (N e L A (λc S=>(c=true->B3 I m (λv S=>pO v.bool? λb=>Q b S) J S)/\(c=false->pO (AV.bool false).bool? λb=>Q b S)) J S D s H t h R f) (λc T w=>?_) λZ Z x=>x);refine w _ λG d y o X=>?_;rcases y with⟨n,hf⟩
 cases c with
 | true=>rw[A6 rfl];exact B6 (l e L A Q J G d T H t (n rfl) o (f.ext R X)) (λZ Z Y=>Y _ λO C q g A0=>(λZ E=>E O C q g (X.trans A0))) λZ Z x=>x
 | false=>rw[A5 (by decide)];refine Ah (hf rfl) λb j q=>?_;cases j;exact(λZ E=>E G d q o X)
def cP{M m:ME}(N:E0 I B scope names r M a)(l:E0 I B scope names r m (.BoolOp .Or (b::F) p)):E0 I B scope names r (.or M m) (.BoolOp .Or (a::b::F) p):=λe L A Q J S D s H t h R f=>by
 refine isTrue_or (B6 (N e L A (λc S=>(c=true->pO (AV.bool true).bool? λb=>Q b S)/\(c=false->B3 I m (λv S=>pO v.bool? λb=>Q b S) J S)) J S D s H t h R f) (λc T w=>?_) λZ Z x=>x);refine w _ λG d y o X=>?_;rcases y with⟨n,hf⟩
 cases c with
 | true=>rw[A6 rfl];refine Ah (n rfl) λb j q=>?_;cases j;exact(λZ E=>E G d q o X)
 | false=>rw[A5 (by decide)];exact B6 (l e L A Q J G d T H t (hf rfl) o (f.ext R X)) (λZ Z Y=>Y _ λO C q g A0=>(λZ E=>E O C q g (X.trans A0))) λZ Z x=>x
def VG(H:E0 I B scope names r m a):E0 I B scope names r m (.BoolOp o [a] p):=λe L A Q J S D s U t h R f=>by
 cases o with
 | And=>
  refine isTrue_and (B6 (H e L A Q J S D s U t h R f) (λc T w=>?_) λZ Z x=>x);cases c with
  | true=>rw[A6 rfl];exact isTrue_and_nil w
  | false=>rw[A5 (by decide)];exact w
 | Or=>
  refine isTrue_or (B6 (H e L A Q J S D s U t h R f) (λc T w=>?_) λZ Z x=>x);cases c with
  | true=>rw[A6 rfl];exact w
  | false=>rw[A5 (by decide)];exact isTrue_or_nil w
def Pp(l:Expr)(op:CmpOp)(rr:Expr)(pos:Pos)(env:Env)(whole:Sem Value):isTrue (.Compare l [op] [rr] pos) env whole=(eval (.Compare l [op] [rr] pos) env>>= λc=>holding [c] (truthy c)):=by
 refine(?_:(do testChain pos (←eval l env) [op] (markedEach [op] [rr] (evalEach [rr] env)))=(do let c<-(do compareChain pos (←eval l env) [op] (markedEach [op] [rr] (evalEach [rr] env)));holding [c] (truthy c)));rw[bind_assoc];congr 1
 funext a
 refine(?_:(do let rv<-holding [a] _;standAt pos;let c<-operate [a,rv] (compareOp op a rv);holding [c] (truthy c))=(do let rv<-holding [a] _;standAt pos;operate [a,rv] (compareOp op a rv))>>= λc=>holding [c] (truthy c));simp only[bind_assoc]
def cQ{m:ME}{a b:Expr}{o:CmpOp}{p:Pos}(H:AD I B scope names r m (.Compare a [o] [b] p)):E0 I B scope names r m (.Compare a [o] [b] p):=λe L A Q J G D s U v h R f=>by
 rw[Pp];refine AR (B4 H U v h R f λT W x F d w t X V=>ER ?_);refine AF.Iu V w λc S=>?_;exact FQ (λZ E=>E F d S t X)
def cR{m M A:ME}{A0:Pos}(P:AD I B scope names r m a)(g:AD I B scope names r M b)(C:AD I B scope names r A c):E0 I B scope names r (.cmp3 p q m M A) (.Compare a [p.py,q.py] [b,c] A0):=λenv L Aa Qa J σ Dc s H t h R f=>by
 refine isTrue_chain (ops:=[]) (rs:=[]) (B4 P H t h R f λca B8 xa Bk EI Q o x V=>?_) (Po q c);refine test_link (B4 g H t Q o (f.ext R x) λcb Bl ya W E Y d X K=>?_);refine AF.CS (V.mono (o.DI rfl X)) Y λi ta w=>AF.CS K w λj u w=>?_;refine Ac (λn l=>?_) w;refine Hz (FQ ?_);cases v:p.val i j with
 | false=>
  rw[A5 (by decide)];refine Ah (l v) λb e q=>?_;cases e;exact(λZ D=>D W E q d (x.trans X))
 | true=>
  rw[A6 rfl];haveI G:=(f.ext R x).ext o X;refine test_last (B4 C H t (n v) d G λcc D0 z y O w N U T=>?_);refine Ah w λnc F w=>?_;refine Ah w λb e S=>?_;cases AV.F5 F;cases e;rcases T.DU with⟨oa,rfl⟩
  exact Hz (FQ (λZ D=>D y O S N ((x.trans X).trans U)))
def cS{E m M:ME}(C:E0 I B scope names r E c)(N:AD I B scope names r m a)(g:AD I B scope names r M b):AD I B scope names r (.ite E m M) (.IfExp c a b p):=λe L A Q J S D s H v h R f=>by
 refine IfExp_ (B6 (C e L A (λt S=>(t=true->B3 I m Q J S)/\(t=false->B3 I M Q J S)) J S D s H v h R f) (λt T w=>?_) λZ Z x=>x);refine w _ λF d y o X=>?_;rcases y with⟨j,hf⟩
 cases t with
 | true=>rw[A6 rfl];exact B6 (N e L A _ J F d T H v (j rfl) o (f.ext R X)) (λZ Z q=>AS.trans X q) λZ Z x=>x
 | false=>rw[A5 (by decide)];exact B6 (g e L A _ J F d T H v (hf rfl) o (f.ext R X)) (λZ Z q=>AS.trans X q) λZ Z x=>x
def cT(F:Facts B K)(he:AD I B scope names r e a)(hx:CJ[i]?=some x)(hb:∀env whole,attributeBase a x env whole=whole):AD I B scope names r (.attr e i) (.Attribute a x pos):=λenv L A Q J σ D s ho hr h R f=>by
 refine Attribute_any_ (NA he ho hr h R f λv cv D' Aq s' w R' f' vv=>?_) ?_
 ·refine AF.CG vv w λo w=>Ah w λv' ev hq=>?_;exact Ux F R' hx ev hq
 ·refine(?_:(do let o<-attributeBase a x env (eval a env);standAt pos.atName;let r<-holding [o] (getAttr o x true);letTemporaryGo a o r;pure r)=_);rw[hb]
end
def Bn.le(h:Bn r A)(H:k<=r):Bn k A:=(λZ B=>B (by haveI:=h.depth;exact AK 0x91050a020c60840140c210a441428083186100504 [_,_,_,_] [] H this) (by haveI:=h.units;exact AK 0x910501e0868a1821005030842910501e0868a186100504 [_,_,_,_] [] H this) h.handled h.frames)
section
variable(I:Ag)(B:Av)
def DB(k:Nat)(f:Value):Prop:=
 ∀(A:Around) (a:List AV) (V:List Value) (Q:PE) (S:AH) (D:Addr->Addr) (s:Shared),Bn (k+1) A->I.spec k a Q S->AB B D S s.heap->Af s.heap a V->
  codeAny (model B.prog B.w) A (.call f ⟨V,[]⟩) (λr s'=>match r with| .ok (.ret v)=>AS B D S s Q v s'| .ok _=>False| .error e=>BG e s') s
def EJ(o:Scope)(n:List Str)(R:Nat)(m:Cd)(l:List Expr):Prop:=
 (∀(E:Env) (p:Pos),(backTo p (starEach l E)).any (·.1)=false)/\
 (∀(e:Expr) (r:List Expr),l=e::r->∀E:Env,starEach (e::r) E=(false,eval e E)::starEach r E/\∀p:Pos,(backTo p (starEach r E)).any (·.1)=false)/\
 ∀(E:Env) (L:Fm) (A:Around) (Q:List AV->AH->Prop) (J:AE) (S:AH) (D:Addr->Addr) (s:Shared) (p:Pos),Bv E o L->Bn R A->Jo I m Q J S->AB B D S s.heap->B5 B n L D S J s.heap->
  wpAny (model B.prog B.w) A (spliced (backTo p (starEach l E))) (λc s'=>∃v F d,Q v F/\AB B d F s'.heap/\Ext S D s F d s'/\Af s'.heap v c) BG s
end
section
variable{I:Ag}{B:Av}{K:Frag}{scope:Scope}{names:List Str}{r:Nat}
def NC:EJ I B scope names r .nil []:=⟨λZ Z=>rfl,λe F h=>(by cases h),λE L A Q J S D s p H t h R f=>Calls.spliced_nil ⟨[],S,D,h,R,Ext.refl _ _ _,.nil⟩⟩
def L3{M:Cd}(S:AD I B scope names r m e)(H:EJ I B scope names r M l)(y:∀E,starEach (e::l) E=(false,eval e E)::starEach l E):EJ I B scope names r (.cons m M) (e::l):=
 ⟨λE p=>by rw[y];refine(?_:(false||(backTo p (starEach l E)).any (·.1))=false);rw[H.1];rfl,
  λg K h E=>by cases h;exact⟨y E,H.1 E⟩,
  λE L A Q J j D s p U t h R f=>by
  rw[y];refine Calls.spliced_cons (rest:=backTo p (starEach l E)) (B4 S U t h R f λW T x C d N o X O=>?_);refine B6 (H.2.2 E L A _ J C d T p U t N o (f.ext R X)) (λA0 a w=>?_) λZ Z x=>x;refine HF w λV P F Y c v G=>?_;exact⟨x::V,P,F,Y,c,X.trans v,.cons (O.mono (o.DI rfl v)) G⟩⟩
def cU(H:EJ I B scope names r m e):AD I B scope names r (.AA m) (.Tuple e k p):=λE L A Q J G D s U t h R f=>by
 refine Tuple_ (B6 (H.2.2 E L A _ J G D s p U t h R f) (λc T w=>?_) λZ Z x=>x);refine HF w λV C d F o X v=>?_;obtain ⟨M,S⟩:=F;exact wpAny_newObj_type (AS.trans X (bj o v S)) (by refine(?_:c.toArray.size<=sizeLine);rw[BH,v.length,Eo];exact A3 0x220000005180281904300441 [_] [] M)
def cV(H:EJ I B scope names r m e):AD I B scope names r (.list m) (.List e p):=λE L A Q J G D s U t h R f=>by
 refine List_ (B6 (H.2.2 E L A _ J G D s p U t h R f) (λc T w=>?_) λZ Z x=>x);refine HF w λV C d F o X v=>?_;obtain ⟨M,S⟩:=F;exact wpAny_newObj_type (AS.trans X (HN o v S)) (by refine(?_:c.toArray.size<=sizeLine);rw[BH,v.length,Eo];exact A3 0x220000005180281904300441 [_] [] M)
def ND{k:Nat}{f:Value}(V:DB I B k f){A:Around}(H:Bn (k+1) A){a:List AV}{r:List Value}{Q:PE}{S:AH}{D:Addr->Addr}{s:Shared}(h:I.spec k a Q S)(R:AB B D S s.heap)(v:Af s.heap a r):
  wpAny (model B.prog B.w) A (call f r) (AS B D S s Q) BG s:=wpAny_call (V A a r Q S D s H h R v)
def s_call(F:Facts B K)(G:Bw B){M:Cd}{C:List Expr}(N:scope.names.lookup x=some .globalImplicit)(hd:(x==("__debug__":Str))=false)(w:G.mg x=some c)(X:keepIn K c=true)(V:DB I B k c)(Y:k<r)(T:EJ I B scope names r M (e::C)):AD I B scope names r (.call k M) (.Call (.Name x g) (e::C) [] p):=λm L A Q J E D s H t h R f=>by
 refine AR (GS (by rw[H.sc];exact H.kind) (by unfold Env.kindOf;rw[H.sc];exact N) (Calls.loadGlobal_global (by rw[H.globals];exact G.g.keeps R.Ao) w ?_) hd);haveI W:∀U S,(∃v A0 d,I.spec k v Q A0/\AB B d A0 S.heap/\Ext E D s A0 d S/\Af S.heap v U)->K.In S.heap/\wpAny (model B.prog B.w) A (call c ([]++U)) (AS B D E s Q) BG S:=by
  intro U S l;refine HF l λv Bk n O o j P=>?_;exact⟨o.In F,B6 (ND V (t.le Y) O o P) (λZ Z q=>AS.trans j q) λZ Z x=>x⟩
 have y:=B6 (T.2.2 m L A _ J E D s p H t h R f) W λZ Z x=>x;refine Ac (λa b=>?_) (T.2.1 e C rfl m);exact callWith_K (R.In F) X y a (b p)
def cW(F:Facts B K)(G:Bw B)(M:scope.names.lookup x=some .globalImplicit)(hd:(x==("__debug__":Str))=false)(o:G.mg x=some a)(S:keepIn K a=true)(V:DB I B k a)(W:k<r):AD I B scope names r (.call k .nil) (.Call (.Name x X) [] [] p):=λe L A Q J E D s H t h R f=>by
 refine AR (GS (by rw[H.sc];exact H.kind) (by unfold Env.kindOf;rw[H.sc];exact M) (Calls.loadGlobal_global (by rw[H.globals];exact G.g.keeps R.Ao) o ?_) hd);exact callWith_K0 (R.In F) S (ND V (t.le W) h R .nil)
def cX(I:Ag)(K:Frag)(h:Nat->Value)(M:Nat->Str)(l:Prop):Prop:=
 (∀c m f,I.Ar c m=some f->c∈HH->∃F,h f= .ref F/\keepIn K (.ref F)=true/\findIn K (.ref c) (M m)=some (some (.ref F))/\typeIn K (.ref F)=some (.type "function")/\∀i,CJ[i]?=some (M m)->EU c i=false)->l
def Iw(I:Ag)(K:Frag)(f:Nat->Value)(m:Nat->Str):Prop:=Ch (cX I K f m)
section
variable(zh:Iw I K fv mn)
def Iw.ok:=zh _ λz=>z
end
def VH(F:Facts B K)(M:Iw I K d n)(R:AB B D S s.heap)(H:S.cls a=some c)(V:I.Ar c m=some f){pl:Sem Bool}(h:Q (d f,[.ref a]) s):
  wpAny (model B.prog B.w) A (getMethod (.ref a) (n m) pl) Q E s:=by
 refine Ac (λG g=>?_) (R.EF a c H);refine PH (M.ok c m f V G) λr e Z T U e4=>?_;refine F3 (R.inst a c H) λp l j O=>?_;obtain ⟨f1,f2⟩:=O;refine AJ (Ph (Pj j) (n m)) λo X N=>?_;have L:l (n m)=none:=by
  by_cases q:n m∈CJ
  ·refine AW (List.mem_iff_getElem?.mp q) λi A0=>?_;haveI:=f1 i _ A0;cases z:S.A4 a i with
   | none=>rw[z] at this;cases w:l (n m) with
    | none=>rfl
    | some Y=>rw[w] at this;exact this.elim
   | some v=>have:=g i (nn z);rw[e4 i A0] at this;cases this
  ·exact f2 _ q
 refine Cp (F.cls c G) λc1 t P W=>?_;haveI h:=(e)▸h;haveI C:InstAt s.heap a (instObj c (D a)) c (some o):=⟨p,rfl,rfl,X⟩;exact method_fn (R.In F) C (plainGet_of c1).1 (plainGet_of c1).2 T U (by refine(?_:(lookIn (n m) o).map (·.isSome)=some false);rw[N,L];rfl) h
def I0{M:Model}{A:Around}{E:Value->Shared->Prop}{s:Shared}{env:Env}{o:Expr}{name:Str}{apos pos:Pos}{args:List Expr}{Q:Value->Shared->Prop}
  (hb:∀env whole,attributeBase o name env whole=whole) (hn:args.length<20) (Jp:(backTo pos (starEach args env)).all (!·.1)=true) (hp:(apos.endLine==pos.line)=true)
  (h:wpAny M A (eval o env) (λov B8=>wpAny M A (getMethod ov name (do return (←importBound o env).getD true)) (λfx Bl=>wpAny M A (callWith pos fx.1 fx.2 (backTo pos (starEach args env)) []) Q E Bl) E B8) E s):
  wpAny M A (eval (.Call (.Attribute o name apos) args [] pos) env) Q E s:=by
 haveI Pq:methodCallForm (args.length+0) (backTo pos (starEach args env)) (backToKw pos (keywordEach [] env))=true:=by
  unfold methodCallForm;refine(Jp).symm▸?_;refine(?_:(true&&true&&decide (args.length+0+0<30))=true);simp;exact A3 0x4f8000a68000441 [_] [] hn
 refine(?_:wpAny M A (do
  let ov<-attributeBase o name env (eval o env)
  standAt apos.atName
  methodCall o name apos pos env ov (args.length+0) (backTo pos (starEach args env)) (backToKw pos (keywordEach [] env))) Q E s)
 rw[hb];refine AR (B6 h (λov B8 DV=>AR (wpAny_standAt ?_)) λZ Z x=>x);unfold methodCall;refine(Pq).symm▸?_;refine AR (ER (B6 DV (λfx Bl Ga=>?_) λZ Z x=>x));unfold methodCallPos;refine(hp).symm▸?_;exact AR (An Ga)
def VI(h:EJ I B scope names r m E)(e:Env)(p:Pos):(backTo p (starEach E e)).all (!·.1)=true:=by
 haveI:=h.1 e p;rw[List.any_eq_false] at this;rw[EE];intro x H;haveI:=this x H;simpa using this
def cY(F:Facts B K){fv:Nat->Value}{mn:Nat->Str}(M:Iw I K fv mn){m:Nat}{mo:ME}{ms:Cd}{o:Expr}{name:Str}{e:Expr}{rest:List Expr}{apos pos:Pos}(hm:mn m=name)(hb:∀env whole,attributeBase o name env whole=whole)(hn:(e::rest).length<20)(hp:(apos.endLine==pos.line)=true)
  (V:∀c f,I.Ar c m=some f->f<r/\DB I B f (fv f)) (h0:AD I B scope names r mo o) (h1:EJ I B scope names r ms (e::rest)):
  AD I B scope names r (.Ar mo m ms) (.Call (.Attribute o name apos) (e::rest) [] pos):=λenv L A Q J σ D s ho hr h R f=>by
 refine I0 hb hn (VI h1 env pos) hp (B4 h0 ho hr h R f λco B8 x Bk EI w DJ Cr Ce=>?_);refine AF.CG Ce w λa w=>Ah w λc hc w=>Ah w λk hk DV=>?_;subst hm;refine VH F M DJ hc hk ?_;refine Ac (λPr Vk=>?_) (V c k hk);refine BX (M.ok c m k hk (DJ.EF a c hc).1) λfa e1 e2 Z=>?_;have hs:=B6 (h1.2.2 env L A _ J Bk EI B8 pos ho hr DV DJ (f.ext R Cr)) (Q':=λF7 Bl=>K.In Bl.heap/\wpAny (model B.prog B.w) A (call (fv k) ([.ref a]++F7)) (AS B D σ s Q) BG Bl) (λF7 Bl w=>by
  refine HF w λvs DA Gb Ga Gd FW F8=>?_;exact⟨Gd.In F,B6 (ND Vk (hr.le Pr) Ga Gd (.cons (.obj a) F8)) (λZ Z q=>AS.trans (Cr.trans FW) q) λZ Z x=>x⟩) λZ Z x=>x
 refine Ac (λa1 b1=>?_) (h1.2.1 e rest rfl env);exact callWith_K (R.In F) (by rw[e1];exact e2) hs a1 (b1 pos)
def cZ(F:Facts B K){fv:Nat->Value}{mn:Nat->Str}(M:Iw I K fv mn){m:Nat}{mo:ME}{o:Expr}{name:Str}{apos pos:Pos}(hm:mn m=name)(hb:∀env whole,attributeBase o name env whole=whole)(hp:(apos.endLine==pos.line)=true)
  (V:∀c f,I.Ar c m=some f->f<r/\DB I B f (fv f)) (h0:AD I B scope names r mo o):
  AD I B scope names r (.Ar mo m .nil) (.Call (.Attribute o name apos) [] [] pos):=λenv L A Q J σ D s ho hr h R f=>by
 refine I0 hb (by decide) rfl hp (B4 h0 ho hr h R f λco B8 x Bk EI w DJ Cr Ce=>?_);refine AF.CG Ce w λa w=>Ah w λc hc w=>Ah w λk hk DV=>?_;subst hm;refine VH F M DJ hc hk ?_;refine Ac (λPr Vk=>?_) (V c k hk);refine BX (M.ok c m k hk (DJ.EF a c hc).1) λfa e1 e2 Z=>?_;exact callWith_K0 (DJ.In F) (by rw[e1];exact e2) (B6 (ND Vk (hr.le Pr) DV DJ (.cons (.obj a) .nil)) (λZ Z q=>AS.trans Cr q) λZ Z x=>x)
end
section
variable{I:Ag}{B:Av}{K:Frag}{scope:Scope}{names:List Str}{r:Nat}
def Bn.in1(h:Bn r A)(n:Nat)(H:n<=20):A.units+n<cLine:=by haveI:=h.units;exact AK 0x1220a021005140042910501e0868a186100504 [_,_,_,_] [] H this
open Classical in
def cf(t:Bn r A)(R:AB B D S s.heap)(E:S.A1 i=some u)(F:S.A1 j=some v)(C:∀(j:Nat)(x y:AV),u[j]?=some x->v[j]?=some y->CR 3 x y)(h:Q (.bool (N^^decide (u=v))) S):
  wpAny (model B.prog B.w) A (compareOp (if N then .NotEq else .Eq) (.ref i) (.ref j)) (AS B D S s Q) BG s:=by
 refine B9 (R.list E) λV n p I=>?_;refine B9 (R.list F) λw m q o=>?_;have f:∀j (T:j<V.toArray.size) (l:j<w.toArray.size),EqAt A.in1 s V.toArray[j] w.toArray[j] (decide (u[j]?=v[j]?)):=λj T l=>by
  refine AJ (I.get' (T)) λK g q1=>?_;refine AJ (o.get' (l)) λO W A0=>?_;haveI:=VA 3 (A:=A.in1) (by haveI:=t.in1 5 (Ae 0x228028000 [] []);simp only[Around.in1_units];exact A3 0x90850302020005210a0a000482 [_,_] [] this) q1 A0 (C j K O g W);rw[g,W];simpa using this
 haveI G:=t.in1 0 (Ae 0x228000000 [] []);by_cases M:u.length=v.length
 ·haveI H:V.toArray.size=w.toArray.size:=by rw[BH,BH,I.length,o.length,M]
  haveI e:(List.range V.toArray.size).all (λj=>decide (u[j]?=v[j]?))=decide (u=v):=by rw[BH,I.length];exact all_eq' M
  cases N with
  | false=>
   haveI:=RcAt.lists (IsL.isList p) (IsL.isList q) H G f;rw[e] at this;exact this B.prog B.w BG _ (AS.pure (by simpa using h) R (.bool _))
  | true=>
   haveI:=RcNeAt.lists (IsL.isList p) (IsL.isList q) H G f;rw[e] at this;exact this B.prog B.w BG _ (AS.pure (by simpa using h) R (.bool _))
 ·haveI H:(V.toArray.size !=w.toArray.size)=true:=by rw[BH,BH,I.length,o.length];simpa using M
  haveI e:decide (u=v)=false:=C0 λe=>M (by rw[e]);rw[e] at h;cases N with
  | false=>exact RcAt.lists_lengths (IsL.isList p) (IsL.isList q) H G B.prog B.w BG _ (AS.pure (h) R (.bool _))
  | true=>exact RcNeAt.lists_lengths (IsL.isList p) (IsL.isList q) H G B.prog B.w BG _ (AS.pure (h) R (.bool _))
def cg{a b:List UInt8}(h:a.map (λx=>(x.toNat:Int))=b.map (λx=>(x.toNat:Int))):a=b:=by
 induction a generalizing b with
 | nil=>cases b with
  | nil=>rfl
  | cons _ _=>cases h
 | cons x a C=>cases b with
  | nil=>cases h
  | cons y b=>
   simp only[List.map_cons,List.cons.injEq] at h;refine Ac (λH l=>?_) h;haveI m:x.toNat=y.toNat:=A3 0x1410802d2842500482 [_,_] [] H;rw[C l,UInt8.toNat_inj.mp m]
set_option tactic.hygienic true in
def ck{m M:ME}(N:AD I B scope names r m a)(d:AD I B scope names r M b)(T:behindInMarks (if n then .NotEq else .Eq) b=false):
  AD I B scope names r (.Dw n m M) (.Compare a [if n then .NotEq else .Eq] [b] P):=λO L A Q J Y D s U t h R f=>by
 refine Fy (EX N d U t h R f λx y A0 K G g s' w l X V c=>?_) T;cases x<;>cases y<;>first| exact False.elim w| skip
 ·obtain ⟨rfl,H⟩:=w;cases V;cases c;exact EqNone.eq_none_none (AS.pure H l (.bool _))
 ·rename_i i j;rcases w with⟨rfl,H⟩
  cases V with
  | @bytes _ o t1 E=>
   cases c with
   | @bytes _ W t2 S=>
    refine PySem.W.eq_bytes (AS.pure ?_ l (.bool _));haveI:(o.toList==W.toList)=decide (i=j):=by
     rw[Bool.beq_eq_decide_eq];exact ES.mpr ⟨λe=>by rw[<-E,<-S,e],λe=>cg (by rw[E,S,e])⟩
    rw[this];exact H
 ·refine Ah w λu F w=>?_;refine Ah w λv p w=>?_;refine Ac (λC H=>?_) w;cases V;cases c;exact cf t l F p C H
open Classical in
def VJ(r:Af h l V)(H:∀z∈l,CR 3 z x):V.toArray.any (λI=>decide (AF h x I))=decide (x∈l):=by
 rw[<-Array.any_toList];refine(?_:V.any _=_);induction l generalizing V with
 | nil=>cases r;simp
 | cons v l C=>
  cases r with
  | @cons _ c _ V a b=>
   rw[List.any_cons,C b λz q=>H z (.tail _ q)];have e:decide (AF h x c)=decide (v=x):=ES.mpr ⟨λq=>Pm 3 a q (H v (.head _)),λq=>q▸a⟩;rw[e];by_cases q:v=x
   ·subst q;simp
   ·haveI:¬x=v:=λe=>q e.symm;simp[q,this]
open Classical in
def NF(t:Bn r A)(V:AF s.heap x c)(R:Af s.heap l v)(h:∀z∈l,CR 3 z x):∀y,y∈v.toArray->EqAt A.in1 s y c (decide (AF s.heap x y)):=λy O=>by
 obtain ⟨j,H,rfl⟩:=Array.mem_iff_getElem.mp O;obtain ⟨v1,g1,q1⟩:=R.get' (H);haveI:=VA 3 (A:=A.in1) (by haveI:=t.in1 5 (Ae 0x228028000 [] []);simp only[Around.in1_units];exact A3 0x90850302020005210a0a000482 [_,_] [] this) q1 V (h v1 (Bj g1));haveI e:decide (v1=x)=decide (AF s.heap x v[j]):=ES.mpr ⟨λq=>q▸q1,λq=>Pm 3 q1 q (h v1 (Bj g1))⟩;rw[e] at this;exact this
def cq{M c:ME}(N:AD I B scope names r M a)(d:AD I B scope names r c b)(T:behindInMarks (if n then .NotIn else .In) b=false):
  AD I B scope names r (.Kq n M c) (.Compare a [if n then .NotIn else .In] [b] P):=λA0 L A Q J W D s U v h R f=>by
 refine Fy (EX N d U v h R f λx y G C F X s' w j K E l=>?_) T;refine AF.CG l w λo w=>Ah w λt g w=>?_;refine Ac (λH S=>?_) w;refine B9 (j.list g) λO m p V=>?_;haveI e:=VJ V H;cases n with
 | false=>exact in_listAt _ (IsL.isList p) (NF v E V H) (AS.pure (by rw[e];simpa using S) j (.bool _))
 | true=>exact notIn_listAt _ (IsL.isList p) (NF v E V H) (AS.pure (by rw[e];simpa using S) j (.bool _))
def ct{M c:ME}(N:AD I B scope names r M a)(g:AD I B scope names r c b)(T:behindInMarks (if n then .NotIn else .In) b=false):
  AD I B scope names r (.N5 n M c) (.Compare a [if n then .NotIn else .In] [b] P):=λA0 L A Q J O D s U v h R f=>by
 refine Fy (EX N g U v h R f λx y G C F W s' w j K E o=>?_) T;refine Ah w λt d w=>?_;refine Ac (λH S=>?_) w;cases AV.GZ d;cases o with
 | @AA _ ad l m p V=>
  haveI e:=VJ V H;haveI hT:s'.heap.IsTuple ad l.toArray:=p.AA;cases n with
  | false=>exact in_tupleAt _ hT (NF v E V H) (AS.pure (by rw[e];simpa using S) j (.bool _))
  | true=>exact notIn_tupleAt _ hT (NF v E V H) (AS.pure (by rw[e];simpa using S) j (.bool _))
def L4(F:Facts B K)(R:AB B D S h)(_:True)(x:S.AL o≠none\/S.AZ o≠none):(o==sysModules)=false:=by
 rw[beq_eq_false_iff_ne];exact R.HJ _ x
def cw{m M:ME}(H:AD I B scope names r m a)(c:AD I B scope names r M b)(S:behindInMarks .In b=false):
  AD I B scope names r (.Uq m M) (.Compare a [.In] [b] p):=λn L A Q J G D s U v h R f=>by
 refine Fy (EX H c U v h R f λx y E F l A0 s' w j C V e=>?_) S;refine AF.CS V w λi u w=>AF.CG e w λo w=>Ah w λt d w=>?_;obtain ⟨N,T⟩:=w;refine wpAny_inSet_of (intKind_is _ _ i u) rfl (j.set _ _ d).2 (AS.pure ?_ j (.bool _));exact T
end
section
variable{I:Ag}{B:Av}{K:Frag}{scope:Scope}{names:List Str}{r:Nat}
def Cq.val{h:Heap}{l:List (Int×AV)}{K:List (Int×Value)}(x:Cq h l K)(k:Int):FU h (GX l k) (valueAt K k):=by
 induction x with
 | nil=>trivial
 | @cons c v I l V a _ C=>
  unfold GX valueAt at C⊢;by_cases e:c=k
  ·rw[List.find?_cons_of_pos (by exact Bg e),List.find?_cons_of_pos (by exact Bg e)];exact a
  ·rw[List.find?_cons_of_neg (by exact λw=>e (Cb w)),List.find?_cons_of_neg (by exact λw=>e (Cb w))];exact C
def FU.isSome(x:FU h v c):v.isSome=c.isSome:=by cases v<;>cases c<;>first| rfl| exact x.elim
def Cq.any{h:Heap}{l:List (Int×AV)}{K:List (Int×Value)}(x:Cq h l K)(k:Int):l.any (λy=>decide (y.1=k))=K.any (λy=>decide (y.1=k)):=by
 induction x with
 | nil=>rfl
 | cons a _ C=>simp only[List.any_cons,C]
def Cq.store{h:Heap}{l:List (Int×AV)}{K:List (Int×Value)}(x:Cq h l K)(k:Int){v:AV}{I:Value}(p:AF h v I):Cq h (Hw l k v) (stored K k I):=by
 haveI H:=x.any k;unfold Hw stored;by_cases c:l.any (λy=>decide (y.1=k))=true
 ·rw[A6 c,A6 (by rw[<-H];exact c)];clear H c;induction x with
  | nil=>exact .nil
  | @cons d V X l f a _ C=>
   simp only[List.map_cons];by_cases e:d=k
   ·rw[A6 e,A6 e];exact .cons p C
   ·rw[A5 e,A5 e];exact .cons a C
 ·rw[A5 c,A5 (by rw[<-H];exact c)];clear H c;induction x with
  | nil=>exact .cons p .nil
  | cons a _ C=>exact .cons a C
def Cq.length{h:Heap}{l:List (Int×AV)}{K:List (Int×Value)}(x:Cq h l K):K.length=l.length:=by
 induction x with
 | nil=>rfl
 | cons _ _ C=>exact AO Nat.succ C
def Cq.keys{h:Heap}{l:List (Int×AV)}{K:List (Int×Value)}(x:Cq h l K):K.map (·.1)=l.map (·.1):=by
 induction x with
 | nil=>rfl
 | cons _ _ C=>exact AO (List.cons _) C
def Du.val(x:Du h l X)(k:KY):FU h (EW l k) ((atKey X k).map (·.2)):=by
 induction x with
 | nil=>trivial
 | @cons K v a c l V H _ C=>
  unfold EW atKey at C⊢;by_cases e:K=k
  ·rw[List.find?_cons_of_pos (by exact Bg e),List.find?_cons_of_pos (by exact Bg e)];exact H
  ·rw[List.find?_cons_of_neg (by exact λw=>e (Cb w)),List.find?_cons_of_neg (by exact λw=>e (Cb w))];exact C
def Du.length(x:Du h l X):X.length=l.length:=by
 induction x with
 | nil=>rfl
 | cons _ _ C=>exact AO Nat.succ C
def Du.store{h:Heap}{l:List (KY×AV)}{X:List (KY×Addr×Value)}(x:Du h l X)(k:KY){v:AV}{I:Value}(a:Addr)(p:AF h v I):Du h (GY l k v) (storedH X k a I):=by
 haveI H:(EW l k).isSome=(atKey X k).isSome:=by rw[(x.val k).isSome];cases atKey X k<;>rfl
 unfold GY storedH;by_cases c:(EW l k).isSome=true
 ·rw[A6 c,A6 (by rw[<-H];exact c)];clear H c;induction x with
  | nil=>exact .nil
  | @cons K V A Y l d U _ C=>
   simp only[List.map_cons,putAt];by_cases e:K=k
   ·rw[A6 e,A6 e];exact .cons p C
   ·rw[A5 e,A5 e];exact .cons U C
 ·rw[A5 c,A5 (by rw[<-H];exact c)];clear H c;induction x with
  | nil=>exact .cons p .nil
  | cons b _ C=>exact .cons b C
def Af.Jq(x:Af h (v::l) U):∃c I,U=c::I/\AF h v c/\Af h l I:=by
 cases x with| cons p q=>exact⟨_,_,rfl,p,q⟩
def Af.NG(x:Af h [] U):U=[]:=by cases x;rfl
def NH{C:List Int}(h:Dx l=some C):l=C.map .int:=by
 induction l generalizing C with
 | nil=>cases h;rfl
 | cons v l X=>
  refine AJ (CP.1 h) λp H m=>?_;refine AJ (BY.1 m) λQ K A=>?_;subst A;exact congr (AO List.cons (AV.F5 H)) (X K)
def cy(C:List Int):Dx (C.map .int)=some C:=by
 induction C with
 | nil=>rfl
 | cons i C X=>show (Dx (C.map .int)).map (i:: ·)=_;rw[X];rfl
def d1{C:List Int}(x:Af h (C.map .int) v):ItemsAre (intKind P w) C v:=by
 induction C generalizing v with
 | nil=>exact x.NG▸.nil
 | cons i C X=>exact C2 x.Jq λc I e p q=>(AF.DU p).elim λt d=>by rw[e,d];exact .cons (intKind_is _ _ i t) (X q)
def intsAre_of{C:List Int}(x:Af h (C.map .int) v):IntsAre v C:=by
 induction C generalizing v with
 | nil=>exact x.NG▸.nil
 | cons i C X=>exact C2 x.Jq λc I e p q=>(AF.DU p).elim λt d=>by rw[e,d];exact .cons _ _ (X q)
def Pt{C:List Int}(x:IntsAre v C):Af h (C.map .int) v:=by
 induction x with
 | nil=>exact .nil
 | cons i t _ X=>exact .cons (.int i t) X
def AF.VK(x:AF h (.AA l) c):∃a v n,c= .ref a/\IsT h a (List.toArray v) n/\Af h l v:=by
 cases x with| AA p q=>exact⟨_,_,_,rfl,p,q⟩
def key_is{C:List Int}(e:v.D9.bind Dx=some C)(r:AF h v c):∃a,c= .ref a/\IsTupleKey (intKind prog w) h C a:=by
 refine AJ (CP.1 e) λl E R=>?_;rw[AV.GZ E,NH R] at r;refine Ke r.VK λa V n A M q=>?_;subst A;obtain ⟨o,p,pc,P⟩:=M;exact⟨a,rfl,o,_,n,p,pc,P,d1 q⟩
def Pu{prog:Program}{w:World}{h:Heap}{x:AV}{k:KY}(e:x.Kx=some k){I:Value}(v:AF h x I):∃A,I= .ref A/\Cy prog w h k A:=by
 obtain ⟨l,K,e⟩:=CP.1 e;rcases AV.GZ K with rfl
 rcases l with _| ⟨a,_| ⟨f,_| ⟨b,_| ⟨c,l⟩⟩⟩⟩<;>first| exact nO e rfl| skip
 ·have E:=e;haveI E:((a.D9.bind Dx).bind λa=>f.int?.bind λf=>(b.D9.bind Dx).map λb=>(a,f,b))=some k:=E;obtain ⟨is,H,e4⟩:=CP.1 E;obtain ⟨i,hf,e5⟩:=CP.1 e4;rcases BY.1 e5 with⟨j,d,rfl⟩
  rcases AV.F5 hf with rfl
  obtain ⟨A,V,n,rfl,⟨o,p,pc,P⟩,r⟩:=v.VK;obtain ⟨c1,V,rfl,r1,r⟩:=r.Jq;obtain ⟨B,V,rfl,r2,r⟩:=r.Jq;obtain ⟨D,V,rfl,r3,r⟩:=r.Jq;rcases r.NG with rfl
  obtain ⟨a1,rfl,k1⟩:=key_is (prog:=prog) (w:=w) H r1;obtain ⟨t,rfl⟩:=r2.DU;obtain ⟨a2,rfl,k2⟩:=key_is (prog:=prog) (w:=w) d r3;exact⟨A,rfl,a1,a2,t,⟨o,n,p,pc,P⟩,k1,k2⟩
def d3{M:Model}(h:∀f:Value->Shared->Prop,f (.bool c) S->wpAny M A (compareOp .In a b) f E s)(H:Q (.bool (!c)) S):wpAny M A (compareOp .NotIn a b) Q E s:=by
 haveI:=h (λv s'=>∀d,v= .bool d->Q (.bool (!d)) s') (λd e=>by cases e;exact H);refine AR (λG p C=>?_);haveI t:Sem.wp M G (contains b a>>= λx=>(pure (Value.bool x):Sem Value)) (λv Z s'=>∀d,v= .bool d->Q (.bool (!d)) s') (λe Z s'=>E e s') p s:=this G p C;rw[Sem.wp_bind'] at t;exact Sem.wp_mono M G _ (λx P s' z=>An (z x rfl)) (λZ Z Z z=>z) p s t
def d6(F:Facts B K)(g:True){n:Bool}{m M:ME}{a b:Expr}{p:Pos}(N:AD I B scope names r m a)(d:AD I B scope names r M b)(T:behindInMarks (if n then .NotIn else .In) b=false):
  AD I B scope names r (.Pf n m M) (.Compare a [if n then .NotIn else .In] [b] p):=λO L A Q J W D s U v h R f=>by
 refine Fy (EX N d U v h R f λx y C A0 G X s' w j P E l=>?_) T;refine AF.CS E w λi u w=>AF.CG l w λo w=>Ah w λt c S=>?_;refine AJ (j.AL _ _ c) λY hd V=>?_;haveI e:=(V.val i).isSome;haveI H:=L4 F j g (.inl (nn c));cases n with
 | false=>exact wpAny_in_of (intKind_is _ _ i u) H hd.mapOf (AS.pure (by rw[<-e];simpa using S) j (.bool _))
 | true=>exact wpAny_notIn_of (intKind_is _ _ i u) H hd.mapOf (AS.pure (by rw[<-e];simpa using S) j (.bool _))
def d7(F:Facts B K)(y:True){m M:ME}(N:AD I B scope names r m a)(d:AD I B scope names r M b)(U:behindInMarks (if n then .NotIn else .In) b=false):
  AD I B scope names r (.Us n m M) (.Compare a [if n then .NotIn else .In] [b] p):=λX L A Q J σ D s V t h R f=>by
 refine Fy (EX N d V t h R f λxa ya A0 P o Aq s' w j Y v g=>?_) U;refine Ah w λk ek w=>?_;refine Ah w λoa l w=>?_;refine Ah w λta c T=>?_;refine AJ (Pu (prog:=B.prog) (w:=B.w) ek v) λO G S=>?_;subst G;cases AV.G1 l;cases g.F6;refine AJ (j.AZ _ _ c) λx hd W=>?_;haveI e:=(W.val k).isSome;rw[show ((atKey x k).map (·.2)).isSome=(atKey x k).isSome by cases atKey x k<;>rfl] at e;have H:=L4 F j y (.inr (nn c));have E:(HG B.prog B.w).room A.in1:=by refine(?_:A.units+1+1<cLine);haveI:=t.units;exact A3 0x48428081010002908501e0868a1841004c3 [_,_,_] [] this
 cases n with
 | false=>exact wpAny_in_heap (knd:=HG B.prog B.w) E S H hd (AS.pure (by rw[<-e];simpa using T) j (.bool _))
 | true=>exact d3 (λC q=>wpAny_in_heap (knd:=HG B.prog B.w) E S H hd q) (AS.pure (by rw[<-e];simpa using T) j (.bool _))
noncomputable def isSlice (e:Expr):Bool:=Nat.beq e.ctorIdx 26
def NI(h:isSlice S=false)(o i:Value):subscripted S false o i=operate [o,i] (getItem o i):=by
 cases S<;>first| rfl| cases h
def d8{M F:ME}(N:AD I B scope names r M a)(A0:AD I B scope names r F i)(g:isSlice i=false):AD I B scope names r (.idx M F) (.Subscript a i o):=λx L A Q J σ D s U K h R f=>by
 refine Subscript_ (EX N A0 U K h R f λxa ya X Y W Aq s' w l y V d=>?_);refine AF.CS d w λn ta w=>?_;haveI P:=w.1;refine AV.N9 V w.2 (λu b tb e w=>?_) λoa w=>?_
 ·refine C9 w λT C w=>Ah w λv ev S=>?_;have H:n.toNat<b.toList.length:=by
   refine AW (D6.mp ev) λq Z=>?_;rw[<-e] at q;exact(Ak _)▸q
  have G:((b.toList.getD n.toNat 0).toNat:Int)=v:=by
   rw[<-e,Bb,Aw H] at ev;simp only[Option.map_some,Option.some.injEq] at ev;rw[<-ev,C4,Aw H];rfl
  haveI c:b=b.toList.toArray:=(Array.toArray_toList).symm;refine(c).symm▸?_;refine tail_any (T:="bytes") (PySem.W.typeIs_bytes _ _ _) FB.slot_bytes_getitem.lookup (PySem.W.getItem_bytes ?_ C (A3 0x185004024802500841 [_] [_] H) (AS.pure ?_ l (.int _ _))) (NI g _ _)
  ·haveI:b.toList.length=u.length:=by rw[<-e,Ak]
   rw[this];unfold room at T;exact A3 0x80800000000024600a3d09008300441 [_] [] T
  ·rw[G];exact S
 ·refine Ah w λu E w=>Ah w λj t w=>Ah w λv O S=>?_;refine B9 (l.list E) λvs m p rr=>?_;exact tail_any (T:="list") ⟨_,p,rfl⟩ slot_list_getitem.lookup (bp l E P t O S) (NI g _ _)
def d9{m M:ME}{a i:Expr}{P:Pos}(N:AD I B scope names r m a)(F:AD I B scope names r M i)(g:isSlice i=false):AD I B scope names r (.Pd m M) (.Subscript a i P):=λT L A Q J X D s U E h R f=>by
 refine Subscript_ (EX N F U E h R f λx y A0 O l Y s' w j W G d=>?_);refine AF.CG G w λo w=>Ah w λt c w=>AF.CS d w λn u w=>Ah w λv p S=>?_;refine AJ (j.AL _ _ c) λK hd V=>?_;haveI e:=V.val n;rw[p] at e;cases H:valueAt K n with
 | none=>rw[H] at e;exact e.elim
 | some C=>
  rw[H] at e;exact tail_any (T:="dict") hd.typeIs slot_dict_getitem.lookup (wpAny_getItem_of (intKind_is _ _ n u) hd.mapOf H (AS.pure S j e)) (NI g _ _)
def dA{m M:ME}(N:AD I B scope names r m a)(F:AD I B scope names r M i)(g:isSlice i=false):AD I B scope names r (.EV m M) (.Subscript a i P):=λY L A Q J σ D s U E h R f=>by
 refine Subscript_ (EX N F U E h R f λx ya O W n Aq s' w j y C d=>?_);refine Ah w λo l w=>?_;refine Ah w λt c w=>?_;refine Ah w λk ek w=>?_;refine Ah w λv G T=>?_;refine AJ (Pu (prog:=B.prog) (w:=B.w) ek d) λK A0 S=>?_;subst A0;cases AV.G1 l;cases C.F6;refine AJ (j.AZ _ _ c) λX hd V=>?_;haveI e:=V.val k;rw[G] at e;cases H:atKey X k with
 | none=>rw[H] at e;exact e.elim
 | some p=>
  rw[H] at e;exact tail_any (T:="dict") hd.typeIs slot_dict_getitem.lookup (wpAny_getItem_heap (knd:=HG B.prog B.w) (by refine(?_:A.units+1+1<cLine);haveI:=E.units;exact A3 0x48428081010002908501e0868a1841004c3 [_,_,_] [] this) S hd H (AS.pure T j e)) (NI g _ _)
end
section
variable{I:Ag}{B:Av}{K:Frag}{scope:Scope}{names:List Str}{r:Nat}
def B5.push{B:Av}{n:List Str}{L:Fm}{D:Addr->Addr}{S:AH}{J:AE}{s:Shared}(f:B5 B n L D S J s.heap)(R:AB B D S s.heap)(o:Obj):B5 B n L D S J (s.heap.push o):=
 B5.ext (s':={s with heap:=s.heap.push o}) f R (λZ I=>I (λZ Z q Z=>CZ _ q) (λZ x=>.inl x) rfl rfl)
def Ext.D1(o:Obj):Ext σ D s σ D {s with heap:=s.heap.push o}:=
 (λZ B=>B (λZ Z q Z=>CZ _ q) (λZ x=>.inl x) rfl rfl)
def AB.D1(R:AB B D σ h)(o:Obj):AB B D σ (h.push o):=R.grow λZ Z q=>CZ _ q
def Iy(lo h:Option Expr)(p:Pos)(o i:Value):subscripted (.Slice lo h none p) false o i=operate [i,o] (getItem o i):=rfl
def dB(b:Array UInt8){lo hi:Option Int}:KBw.bInts (KBy.picked b lo hi)=((KBw.bInts b).drop (lo.elim 0 (clipAt (KBw.bInts b).length))).take (hi.elim (KBw.bInts b).length (clipAt (KBw.bInts b).length)-lo.elim 0 (clipAt (KBw.bInts b).length)):=KBc.ints_picked rfl lo hi
def VL(R:AB B D S s.heap)(e:b.toList.map (λx=>(x.toNat:Int))=u)(U:room u.length){lo h:Option Int}(H:IsPart l lo)(I:IsPart v h)(y:s.heap.IsSliceOf d l v .none)(T:Q (.bytes ((u.drop (lo.elim 0 (clipAt u.length))).take (h.elim u.length (clipAt u.length)-lo.elim 0 (clipAt u.length)))) S):wpAny (model B.prog B.w) A (getItem (.bytes b t) (.ref d)) (AS B D S s Q) BG s:=by
 refine getItem_meets (PySem.W.typeIs_bytes _ _ _) (by decide) FB.slot_bytes_getitem FB.entry_bytes_getitem (FB.args_bytes_getitem_2 _ _) (KBc.meets_slice2 b t _ H I) ⟨y,?_,λW k=>?_⟩
 ·refine BE (KBc.size_picked_le b lo h) ?_;haveI:b.size=u.length:=by rw[<-e,Ak,Array.length_toList]
  rw[this];exact EH U
 ·refine AS.pure T R (.bytes _ ?_);haveI:=dB b (lo:=lo) (hi:=h);unfold KBw.bInts at this;haveI this:=(e)▸this;exact this
def dE{M E:ME}(N:AD I B scope names r M a)(A0:AD I B scope names r E i):AD I B scope names r (.N4 M E) (.Subscript a (.Slice none (some i) none p) P):=λenv L A Qa J σ D s U v h R f=>by
 refine Subscript_ (B4 N U v h R f λca B8 x Bk EI O o F Q=>?_);refine wpAny_Slice ?_;rw[evalPart_none,evalPart_some];refine An (B4 A0 U v O o (f.ext R F) λcb S ya l d w c G W=>?_);refine AF.CS W w λn t w=>?_;haveI C:=w.1;replace w:=w.2.2;obtain ⟨n,rfl⟩:∃m:Nat,n=m:=⟨n.toNat,by exact A3 0x1a52804012c0200040 [] [_] C⟩;refine An ?_;have j:=Q.mono (o.DI rfl G);haveI X:=(F.trans G).trans (Ext.D1 (σ:=l) (D:=d) (s:=S) {cls:=.type "slice",data:=.fields #[.none,.int n t,.none]});haveI y:=c.D1 {cls:=.type "slice",data:=.fields #[.none,.int n t,.none]};haveI Y:=Heap.IsSliceOf.new S.heap .none (.int n t) .none;refine AV.N9 j w (λu b tb g w=>?_) λoa w=>?_
 ·refine Ac (λT H=>?_) w;refine tail_any (T:="bytes") (PySem.W.typeIs_bytes _ _ _) FB.slot_bytes_getitem.lookup ?_ (Iy _ _ _ _ _);refine B6 (VL (s:={S with heap:=_}) y g T .none (.int n t) Y ?_) (λZ Z q=>AS.trans X q) λZ Z x=>x;haveI e:u.take (min n u.length)=u.take n:=by rw[<-List.take_take,List.take_length]
  simpa [clipAt_nat,e] using H
 ·refine Ah w λu K w=>Ac (λT H=>?_) w;refine B9 (y.list (s:={S with heap:=_}) K) λvs m p V=>?_;refine tail_any (T:="list") ⟨_,p,rfl⟩ slot_list_getitem.lookup ?_ (Iy _ _ _ _ _);refine wpAny_getItem_list_slice (IsL.isList p) Y .none (.int n t) .none (by simp) ?_ (by rw[BH,V.length];exact EH T);rw[slicePick_upto'];exact AS.trans X (HN (s:={S with heap:=_}) y (V.take n) (H))
def dF{M E:ME}{a i:Expr}{p j:Pos}(N:AD I B scope names r M a)(F:AD I B scope names r E i):AD I B scope names r (.Up M E) (.Subscript a (.Slice none (some i) none p) j):=λenv L A Q J σ D s H v h R f=>by
 refine Subscript_ (B4 N H v h R f λca B8 xa Bk K P o x W=>?_);refine wpAny_Slice ?_;rw[evalPart_none,evalPart_some];refine An (B4 F H v P o (f.ext R x) λcb S ya l d w c X C=>?_);refine AF.CS C w λn t w=>?_;obtain ⟨h0,hw,w⟩:=w;obtain ⟨n,rfl⟩:∃m:Nat,n=m:=⟨n.toNat,by exact A3 0x1a52804012c0200040 [] [_] h0⟩;refine An ?_;haveI g:=W.mono (o.DI rfl X);haveI A0:=(x.trans X).trans (Ext.D1 (σ:=l) (D:=d) (s:=S) {cls:=.type "slice",data:=.fields #[.none,.int n t,.none]});haveI y:=c.D1 {cls:=.type "slice",data:=.fields #[.none,.int n t,.none]};haveI Y:=Heap.IsSliceOf.new S.heap .none (.int n t) .none;refine AF.CG g w λoa w=>Ah w λu G w=>?_;obtain ⟨U,T⟩:=w;obtain ⟨e,m,p,V⟩:=y.Ir _ _ G;haveI V:=V.mono (BM.of y.Ao);haveI p:=y.Ao _ _ p;haveI O:e.length=u.length:=by rw[V.length,Ak]
 refine tail_any (T:="list") ⟨_,p,rfl⟩ slot_list_getitem.lookup ?_ (Iy _ _ _ _ _);refine wpAny_getItem_list_slice (IsL.isList p) Y .none (.int n t) .none (by simp) ?_ (by rw[BH,O];exact EH U);rw[slicePick_upto'];exact AS.trans A0 (HN (s:={S with heap:=_}) y (V.take n) (by rw[<-List.map_take];exact T))
def dG{M D:ME}(N:AD I B scope names r M a)(C:AD I B scope names r D i):AD I B scope names r (.Pe M D) (.Subscript a (.Slice (some i) none none p) P):=λenv L A Qa J σ Dc s V v h R f=>by
 refine Subscript_ (B4 N V v h R f λca B8 x Bk EI O o E Q=>?_);refine wpAny_Slice ?_;rw[evalPart_none,evalPart_some];refine B4 C V v O o (f.ext R E) λcb S ya l d w c F K=>?_;refine AF.CS K w λn t w=>?_;haveI G:=w.1;replace w:=w.2.2;obtain ⟨n,rfl⟩:∃m:Nat,n=m:=⟨n.toNat,by exact A3 0x1a52804012c0200040 [] [_] G⟩;refine An (An ?_);haveI j:=Q.mono (o.DI rfl F);haveI X:=(E.trans F).trans (Ext.D1 (σ:=l) (D:=d) (s:=S) {cls:=.type "slice",data:=.fields #[.int n t,.none,.none]});haveI y:=c.D1 {cls:=.type "slice",data:=.fields #[.int n t,.none,.none]};haveI Y:=Heap.IsSliceOf.new S.heap (.int n t) .none .none;refine AV.N9 j w (λu b tb g w=>?_) λoa w=>?_
 ·refine Ac (λU T=>?_) w;refine tail_any (T:="bytes") (PySem.W.typeIs_bytes _ _ _) FB.slot_bytes_getitem.lookup ?_ (Iy _ _ _ _ _);refine B6 (VL (s:={S with heap:=_}) y g U (.int n t) .none Y ?_) (λZ Z q=>AS.trans X q) λZ Z x=>x;haveI e:(u.drop (min n u.length)).take (u.length-min n u.length)=u.drop n:=by
   rw[List.take_of_length_le (by rw[List.length_drop];exact Ae 0x212a004210052a0042100482 [_,_] [])];by_cases H:n<=u.length
   ·rw[Nat.min_eq_left H]
   ·rw[Nat.min_eq_right (by exact A3 0x8084012200108482 [_,_] [] H),List.drop_of_length_le (by exact Ae 0x200100441 [_] []),List.drop_of_length_le (by exact A3 0x8084012200108482 [_,_] [] H)]
  simpa [clipAt_nat,e] using T
 ·refine Ah w λu A0 w=>Ac (λU T=>?_) w;refine B9 (y.list (s:={S with heap:=_}) A0) λvs m p W=>?_;refine tail_any (T:="list") ⟨_,p,rfl⟩ slot_list_getitem.lookup ?_ (Iy _ _ _ _ _);refine wpAny_getItem_list_slice (IsL.isList p) Y (.int n t) .none .none (by simp) ?_ (by rw[BH,W.length];exact EH U);rw[slicePick_from'];exact AS.trans X (HN (s:={S with heap:=_}) y (W.drop n) (by exact T))
def dH{M:ME}(N:AD I B scope names r M a):AD I B scope names r (.PY M) (.Subscript a (.Slice none none none p) P):=λe L A Q J C D s U v h R f=>by
 refine Subscript_ (B4 N U v h R f λc S x G d w t F O=>?_);refine AF.CG O w λo w=>Ah w λu E w=>?_;refine Ac (λW T=>?_) w;refine wpAny_Slice ?_;rw[evalPart_none];refine An (An (An ?_));haveI X:=F.trans (Ext.D1 (σ:=G) (D:=d) (s:=S) {cls:=.type "slice",data:=.fields #[.none,.none,.none]});haveI y:=t.D1 {cls:=.type "slice",data:=.fields #[.none,.none,.none]};haveI H:=Heap.IsSliceOf.new S.heap .none .none .none;refine B9 (y.list (s:={S with heap:=_}) E) λg m p V=>?_;refine tail_any (T:="list") ⟨_,p,rfl⟩ slot_list_getitem.lookup ?_ (Iy _ _ _ _ _);refine wpAny_getItem_list_slice (IsL.isList p) H .none .none .none (by simp) ?_ (by rw[BH,V.length];exact EH W);rw[slicePick_all];exact AS.trans X (HN (s:={S with heap:=_}) y V T)
def dI{M A D:ME}{a i j:Expr}{p K:Pos}(O:AD I B scope names r M a)(F:AD I B scope names r A i)(G:AD I B scope names r D j):AD I B scope names r (.slFT M A D) (.Subscript a (.Slice (some i) (some j) none p) K):=λenv L Aa Qa J σ Dc s H v h R f=>by
 refine Subscript_ (B4 O H v h R f λca B8 xa Bk EI P o x Ce=>?_);refine wpAny_Slice ?_;rw[evalPart_none,evalPart_some,evalPart_some];refine B4 F H v P o (f.ext R x) λcb Bl ya DA Gb A0 c X F8=>?_;refine B4 G H v A0 c ((f.ext R x).ext o X) λcc S z Iv d w N Jr L5=>?_;refine AF.CS F8 w λn t w=>AF.CS L5 w λk T w=>?_;refine Cp w λE g hw w=>?_;refine AF.CG Ce w λoa w=>Ah w λu C w=>?_;refine C9 w λW Q U=>?_;obtain ⟨n,rfl⟩:∃m:Nat,n=m:=⟨n.toNat,by exact A3 0x1a52804012c0200040 [] [_] E⟩;obtain ⟨k,rfl⟩:∃m:Nat,k=m:=⟨k.toNat,by exact A3 0x34a5008025804500441 [_] [_] g⟩;refine An ?_;haveI xp:=((x.trans X).trans Jr).trans (Ext.D1 (σ:=Iv) (D:=d) (s:=S) {cls:=.type "slice",data:=.fields #[.int n t,.int k T,.none]});haveI y:=N.D1 {cls:=.type "slice",data:=.fields #[.int n t,.int k T,.none]};haveI Y:=Heap.IsSliceOf.new S.heap (.int n t) (.int k T) .none;refine B9 (y.list (s:={S with heap:=_}) C) λvs m p V=>?_;refine tail_any (T:="list") ⟨_,p,rfl⟩ slot_list_getitem.lookup ?_ (Iy _ _ _ _ _);refine wpAny_getItem_list_slice (IsL.isList p) Y (.int n t) (.int k T) .none (by simp) ?_ (by rw[BH,V.length];exact EH W);rw[slicePick_run _ n k (by rw[BH,V.length];exact A3 0x1010802b2842500482 [_,_] [] Q) (A3 0x1010802b2842500482 [_,_] [] g)];refine AS.trans xp (HN (s:={S with heap:=_}) y ((V.drop n).take (k-n)) ?_);intro b l;haveI e:((k:Int)-n).toNat=k-n:=Ae 0x52421004a92842500482 [_,_] [];haveI:=U b l;haveI this:=(e)▸this;exact this
end
section
variable{B:Av}{K:Frag}{D:Addr->Addr}{σ:AH}{s s':Shared}{A:Around}{a b:Addr}{Q:PE}
def I1{h:Heap}{a:Addr}(x:h.objs.size<=a):h.get? a=none:=by
 cases e:h.get? a with
 | none=>rfl
 | some o=>exact Ad (Cm e) (Nat.not_lt.mpr x)
def L6(R:AB B D σ s.heap){l:List AV}{vs:List Value}{n:Nat}(h:s.heap.get? b=none)(k:∀c o,s.heap.get? c=some o->s'.heap.get? c=some o)
  (p:IsL s'.heap b vs.toArray n) (r:Af s.heap l vs) (H:∀a,σ.fresh a->Q (.obj a) (σ.uL a l)) (e:s'.gens=s.gens:=by rfl) (E:s'.os=s.os:=by rfl):AS B D σ s Q (.ref b) s':=by
 refine Ac (λj K=>?_) (R.nL h (λc o Z q=>k c o q) p r);refine(λZ I=>I (.obj b) _ D (H _ (Ep (R.free h))) j (λZ I=>I (λc o q Z=>k c o q) (λc x=>?_) e E) (.obj _));obtain x| rfl:=Kp x;exact .inl x;exact .inr h
def dJ(R:AB B D σ s.heap)(H:∀a,σ.fresh a->Q (.obj a) (σ.uI a []))
  (e:s'.heap=s.heap.push {cls:=.type "dict",data:=.dict #[]}:=by rfl) (E:s'.gens=s.gens:=by rfl) (l:s'.os=s.os:=by rfl):AS B D σ s Q (.ref s.heap.objs.size) s':=by
 haveI h:=tooBig s.heap;haveI k:∀b o,s.heap.get? b=some o->(s.heap.push {cls:=.type "dict",data:=.dict #[]}).get? b=some o:=λb o q=>CZ _ q;refine Ac (λr K=>?_) (R.nI h R.PV (λb o Z q=>k b o q) (Heap.DictOf.new s.heap) .nil);refine(λZ I=>I (.obj s.heap.objs.size) _ D (H _ (Ep (R.free h))) (by rw[e];exact r) (λZ I=>I (λb o q Z=>by rw[e];exact k b o q) (λb x=>?_) E l) (.obj _));obtain x| rfl:=PX x;exact .inl x;exact .inr h
def dK(R:AB B D σ s.heap)(H:∀a,σ.fresh a->Q (.obj a) (σ.uT a []))
  (e:s'.heap=s.heap.push {cls:=.type "dict",data:=.dict #[]}:=by rfl) (E:s'.gens=s.gens:=by rfl) (l:s'.os=s.os:=by rfl):AS B D σ s Q (.ref s.heap.objs.size) s':=by
 haveI h:=tooBig s.heap;haveI k:∀b o,s.heap.get? b=some o->(s.heap.push {cls:=.type "dict",data:=.dict #[]}).get? b=some o:=λb o q=>CZ _ q;refine Ac (λr K=>?_) (R.nT h R.PV (λb o Z q=>k b o q) (Heap.DictOfH.new s.heap) .nil);refine(λZ I=>I (.obj s.heap.objs.size) _ D (H _ (Ep (R.free h))) (by rw[e];exact r) (λZ I=>I (λb o q Z=>by rw[e];exact k b o q) (λb x=>?_) E l) (.obj _));obtain x| rfl:=Uj x;exact .inl x;exact .inr h
end
section
variable{I:Ag}{B:Av}{K:Frag}{scope:Scope}{names:List Str}{r:Nat}
def dM{M:ME}(N:AD I B scope names r M a):AD I B scope names r (.Uk M) (.Subscript a (.Slice none none (some (.UnaryOp .USub (.Constant (.int 1) k F) G)) p) j):=λe L A Q J K D s U v h R f=>by
 refine Subscript_ (B4 N U v h R f λc S x A0 d w t C O=>?_);refine AF.CG O w λo w=>Ah w λu E w=>?_;refine Ac (λW T=>?_) w;refine wpAny_Slice ?_;rw[evalPart_none,evalPart_some];refine An (An ?_);refine wpAny_UnaryOp (wpAny_Constant_int ?_);refine P.neg_int ?_;haveI X:=C.trans (Ext.D1 (σ:=A0) (D:=d) (s:=S) {cls:=.type "slice",data:=.fields #[.none,.none,.int (-1) (S.toks+1)]});haveI y:=t.D1 {cls:=.type "slice",data:=.fields #[.none,.none,.int (-1) (S.toks+1)]};haveI H:=Heap.IsSliceOf.new S.heap .none .none (.int (-1) (S.toks+1));refine B9 (y.list (s:={S with heap:=_}) E) λg m p V=>?_;refine tail_any (T:="list") ⟨_,p,rfl⟩ slot_list_getitem.lookup ?_ rfl;refine wpAny_getItem_list_slice (st:=some (-1)) (IsL.isList p) H .none .none (.int _ _) (by decide) ?_ (by rw[BH,V.length];exact EH W);rw[krv_pick];exact AS.trans X (HN (s:={S with heap:=_}) y V.reverse T)
def dN:AD I B scope names r .Ku (.Dict [] [] p):=λe L A Q J S D s H t h R f=>wpAny_Dict_empty (dJ R h)
def dO:AD I B scope names r .Ut (.Dict [] [] p):=λe L A Q J S D s H t h R f=>wpAny_Dict_empty (dK R h)
def dP{M c:ME}(H:AD I B scope names r M a)(e:AD I B scope names r c b):AD I B scope names r (.cat M c) (.BinOp a .Add b o):=λO L A Q J X D s U t h R f=>by
 refine wpAny_BinOp (EX H e U t h R f λx y A0 K C Y s' w l W G g=>?_);refine AF.CG G w λi w=>AF.CG g w λj w=>Ah w λu E w=>Ah w λv F w=>?_;refine Ac (λT S=>?_) w;refine B9 (l.list E) λN n p pr=>?_;refine B9 (l.list F) λV m q d=>?_;refine P.add_list p q ?_ (by rw[BH,BH,pr.length,d.length];exact EH T);exact HN (vs:=N++V) l (pr.append d) S (by simp)
def dQ{s:Shared}{a:Addr}{C:Array Value}{n:Nat}(p:IsL s.heap a C n):∀b,Value.ref a= .ref b->∃o,s.heap.get? b=some o/\o.dict=none:=λb e=>by
 injection e with e;subst e;exact⟨_,p,rfl⟩
def NJ{A:Around}{E:Value->Shared->Prop}{s:Shared}{a:Addr}{C:Array Value}{n:Nat}{id:String}{N:Str}(p:IsL s.heap a C n)(S:Slot "list" N id)(t:typeOf (.builtin id)=pure (.type "method_descriptor")){pl:Sem Bool}{Q:Value×List Value->Shared->Prop}(h:Q (.builtin id,[.ref a]) s):
  wpAny (model B.prog B.w) A (getMethod (.ref a) N pl) Q E s:=
 getMethod_builtin ⟨_,p,rfl⟩ F.plainAttrs_list S t (dQ p) h
def dR{m M:ME}{o v:Expr}{a j:Pos}(d:∀e W,attributeBase o ("append":Str) e W=W)(T:(a.endLine==j.line)=true)(E:AD I B scope names r m o)(S:AD I B scope names r M v)
  (x:∀e,starEach [v] e=[(false,eval v e)]):AD I B scope names r (.append m M) (.Call (.Attribute o ("append":Str) a) [v] [] j):=λe L A Q J σ Dc s H D h R f=>by
 refine I0 d (by simp) (by rw[x];rfl) T (B4 E H D h R f λco B8 xa Bk EI w t X l=>?_);refine AF.CG l w λaa w=>Ah w λu0 Y O=>?_;refine B9 (t.list Y) λus n p pr=>?_;refine NJ p F.slot_list_append F.type_list_append ?_;rw[x];refine P.append_list (B4 S H D O t (f.ext R X) λcv Bl ya DA Gb w c K A0=>?_);refine Ah w λu C w=>?_;refine Ac (λV U=>?_) w;refine C2 (bk (Q:=Q) c C V A0 U) λy n g N G=>?_;exact⟨y,n,g,N,AS.trans (X.trans K) G⟩
def s_pop(c:∀e W,attributeBase o ("pop":Str) e W=W)(X:(S.endLine==l.line)=true)(G:AD I B scope names r m o):
  AD I B scope names r (.pop m) (.Call (.Attribute o ("pop":Str) S) [] [] l):=λe L A Q J σ D s V C h R f=>by
 refine I0 c (by decide) rfl X (B4 G V C h R f λN g x Bk K w t A0 M=>?_);refine AF.CG M w λa w=>Ah w λu E w=>?_;refine Ac (λd w=>?_) w;refine Ah w λy H Y=>?_;refine B9 (t.list E) λU n p pr=>?_;refine NJ p F.slot_list_pop F.type_list_pop ?_;haveI H:=(List.getLast?_eq_getElem?)▸H;refine AJ (pr.get H) λO T v=>?_;refine P.pop_list p (by simpa [pr.length] using T) ?_ (by rw[BH,pr.length];exact EH d);refine AS.trans A0 (L0 (l':=u.dropLast) t E p _ (Hy:=U.take (U.length-1)) ?_ (by rw[pr.length,List.dropLast_eq_take];exact pr.take _) v Y);apply Array.toList_inj.mp;simp only[List.size_toArray];have:U.length-1<U.length:=by
  haveI:=D6.mp T;refine AW this λj Z=>?_;rw[pr.length] at j⊢;exact A3 0x1200a420005200a42000441 [_] [] j
 rw[Array.eraseIdxIfInBounds,dif_pos (by simpa using this)];simp[List.eraseIdx_eq_take_drop_succ];rw[show U.length-1+1=U.length by exact A3 0xa0050102420005200a42000441 [_] [] this];simp[List.dropLast_eq_take]
def dT{M S:ME}(d:∀e W,attributeBase o ("extend":Str) e W=W)(Y:(a.endLine==j.line)=true)(E:AD I B scope names r M o)(T:AD I B scope names r S v)(x:∀e,starEach [v] e=[(false,eval v e)]):AD I B scope names r (.extend M S) (.Call (.Attribute o ("extend":Str) a) [v] [] j):=λe L Aa Qa J σ Dc s U A h R f=>by
 refine I0 d (by simp) (by rw[x];rfl) Y (B4 E U A h R f λco B8 xa Bk EI w t X G=>?_);refine AF.CG G w λaa w=>Ah w λu0 g N=>?_;refine B9 (t.list g) λyn n0 l yo=>?_;refine NJ l F.slot_list_extend F.type_list_extend ?_;rw[x];refine P.extend_list (B4 T U A N t (f.ext R X) λcv Bl ya DA Gb w c FW C=>?_);refine Ah w λu D w=>AF.CG C w λb w=>Ah w λw K w=>?_;refine Ac (λH y=>?_) w;refine B9 (c.list D) λO n p pr=>?_;refine B9 (c.list K) λV m q Q=>?_;unfold room at H;refine⟨b,_,_,n,m,?_,?_,?_,rfl,p,q,AS.trans (X.trans FW) (L0 c D p (λA0=>A0++V.toArray) (Hy:=O++V) (by simp) (pr.append Q) .none y)⟩
 ·rw[BH,pr.length,Eo];exact A3 0x44000000a30051e848041a02100482 [_,_] [] H
 ·rw[BH,BH,pr.length,Q.length,Eo];exact A3 0x10808200000051a0210051e848041a02100482 [_,_] [] H
 ·rw[BH,BH,pr.length,Q.length];haveI:=Eo;simp[Builtin.List.listTooLong]
  (first| lia| omega)
end
section
variable{prog:Program}{w:World}{A:Around}{E:Value->Shared->Prop}{s:Shared}
def dU{R:Result->Shared->Prop}(l:A.handled=none)(b:Array UInt8)(t:Tok)(S:Addr)(V:Value)(A0:Nat)(Y:s.heap.get? S=some {cls:=.type "list",data:=.seq #[] A0})
  (B:∀H tk a I,(∀b o,b≠S->s.heap.get? b=some o->H.get? b=some o)->H.get? S=some {cls:=.type "list",dict:=none,data:=.seq a I,slots:= #[]}->
   ItemsOf (λi v=>∃c u,b[i]?=some c/\v= .int (c.toNat:Int) u) a b.size->R (.ok (.ret V)) {s with heap:=H,toks:=tk}) (hn:b.size<=sizeLine):
  wpAny (model prog w) A.in1 (Builtin.List.listExtendWith (.ref S) (.bytes b t) V)
   (λT s'=>match T with| .done f=>R (.ok f) s'| .again I=>I.quiet=true/\codeAny (model prog w) A I R s') (λe s'=>R (.error e) s') s:=by
 haveI Q:S≠s.heap.objs.size:=Cc (Cm Y);haveI x:S∉[s.heap.objs.size]:=λh=>Q (Az.mp h);unfold Builtin.List.listExtendWith;refine AR (wpAny_typeOf (T:="bytes") (v:=.bytes b t) rfl ?_);haveI U:Builtin.List.listSameRef (.ref S) (.bytes b t)=false:=rfl;haveI m:(Value.type "bytes"==Value.type "list")=false:=by decide
 haveI K:(Value.type "bytes"==Value.type "tuple")=false:=by decide
 refine AR (KBw.pyIter_bytes ?_);refine AR (ER ?_);unfold Builtin.List.listLengthHint;refine AR (wpAny_specialOf (T:="bytes") (v:=.bytes b t) rfl FB.slot_bytes_len.lookup ?_);generalize r:("bytes.__len__":String)=C
 wp_delta
 rw[show splitId C=some ("bytes","__len__") from by subst r;decide+kernel];subst r;refine AR (wpAny_isInstance (T:="bytes") (v:=.bytes b t) (b:=true) rfl (by rw[isSubtype_type];kernel_rfl) ?_);refine wpAny_ite_split (λF=>Ad F (by decide)) (λZ=>?_);refine wpAny_ite_split (λZ=>?_) (λF=>Ad (by decide+kernel) F);refine AR (wpAny_typeOf (T:="bytes") (v:=.bytes b t) rfl ?_);refine An ?_;rw[A5 (by decide)];refine An ⟨plainId_quiet PySem.F.plain_extend_loop _,codeAny_extend_loopS (KBw.walks (A:=A.in1) l _ b t).toS hn _ x _ b.size 0 _ _ _ rfl (Nat.zero_le _) ⟨_,ED _ rfl,rfl,rfl⟩ (CZ _ Y) (ItemsOf.nil _) λs' a I h X g=>?_⟩;rw[Moved.eq_with h];refine B s'.heap s'.toks a I (λb O j e=>h.heap b O (λd=>?_) (CZ _ e)) X g;rcases Co.mp d with E| d
 ·exact j E
 ·exact Ad (Cm e) (by rw[Az.mp d];exact Nat.lt_irrefl _)
def dV{R:Result->Shared->Prop}(hh:A.handled=none)(b:Array UInt8)(t:Tok)(S:Addr)(hS:s.heap.get? S=some {cls:=.type "list",data:=.seq #[]})
  (hR:∀h' tk HO c',(∀b o,b≠S->s.heap.get? b=some o->h'.get? b=some o)->h'.get? S=some {cls:=.type "list",dict:=none,data:=.seq HO c',slots:= #[]}->
   ItemsOf (λi v=>∃c u,b[i]?=some c/\v= .int (c.toNat:Int) u) HO b.size->R (.ok (.ret .none)) {s with heap:=h',toks:=tk}) (hn:b.size<=sizeLine):
  wpAny (model prog w) A.in1 (Builtin.«list.__init__» ⟨[.ref S,.bytes b t],[]⟩)
   (λfin s'=>match fin with| .done f=>R (.ok f) s'| .again c'=>c'.quiet=true/\codeAny (model prog w) A c' R s') (λe s'=>R (.error e) s') s:=by
 refine(?_:wpAny _ _ (do let old<-Builtin.List.listItems (.ref S);Builtin.List.listUpdate (.ref S) (λZ=> #[]);letGo old.toList.reverse;Builtin.List.listExtendWith (.ref S) (.bytes b t) .none) _ _ s);refine AR ?_;unfold Builtin.List.listItems;refine AR (wpAny_seqItems hS rfl (An ?_));refine AR (wpAny_updateSeq hS rfl ?_);haveI dW:=Heap.get?_update_self (Obj.mapSeq (λZ=>(#[]:Array Value))) hS rfl;haveI dX:∀b o,b≠S->s.heap.get? b=some o->(s.heap.update S (Obj.mapSeq (λZ=>(#[]:Array Value)))).get? b=some o:=
  λb o hb e=>(Heap.get?_update_other _ _ (C1 hb)).trans e
 refine AR (wpAny_letGo ?_);refine dU (hn:=hn) hh b t S .none _ dW λh' tk HO c' hk Pw Px=>?_;exact hR h' tk HO c' (λb o hb e=>hk b o hb (dX b o hb e)) Pw Px
def dY{Q:Value->Shared->Prop}(hh:A.handled=none)(b:Array UInt8)(t:Tok)
  (hQ:∀h' tk HO c',(∀b o,s.heap.get? b=some o->h'.get? b=some o)->
   h'.get? s.heap.objs.size=some {cls:=.type "list",dict:=none,data:=.seq HO c',slots:= #[]}->ItemsOf (λi v=>∃c u,b[i]?=some c/\v= .int (c.toNat:Int) u) HO b.size->Q (.ref s.heap.objs.size) {s with heap:=h',toks:=tk}) (hn:b.size<=sizeLine):
  wpAny (model prog w) A (call (.type "list") [.bytes b t]) Q E s:=by
 refine callType_codes (Q₁:=λobj B8=>obj= .ref s.heap.objs.size/\B8={s with heap:=s.heap.push {cls:=.type "list",data:=.seq #[]}}) PySem.F.called_list (PySem.F.typeCall_list_1 _) PySem.F.entry_list_init
  (code_list_new _ ⟨rfl,rfl⟩) λobj B8 DV=>?_
 rcases DV with⟨rfl,rfl⟩
 have hS:(s.heap.push {cls:=.type "list",data:=.seq #[]}).get? s.heap.objs.size=some {cls:=.type "list",data:=.seq #[]}:=ED _ rfl;refine⟨⟨_,hS,rfl⟩,PySem.F.args_list_init_2 _ _,dV (A:=A.in1) (hn:=hn) hh b t _ hS λh' tk HO c' hk Pw Px=>?_⟩;exact⟨rfl,hQ h' tk HO c' (λb o e=>hk b o (Cc (Cm e)) (CZ _ e)) Pw Px⟩
end
section
variable{I:Ag}{B:Av}{K:Frag}{scope:Scope}{names:List Str}{r:Nat}
def VM(G:Bw B){m:Cd}{x:Str}{f:Value}{e:Expr}{F:List Expr}{X p:Pos}(M:scope.names.lookup x=some .globalImplicit)(hd:(x==("__debug__":Str))=false)(t:G.mg x=none)(g:G.mb x=some f)
  (j:(∃id,f= .builtin id)\/∃T,f= .type T) (V:EJ I B scope names r m (e::F)) {E:Env} {L:Fm} {A:Around} {J:AE} {S:AH} {D:Addr->Addr} {s:Shared} {W:List AV->AH->Prop} {Q:PE}
  (H:Bv E scope L) (K:Bn r A) (h:Jo I m W J S) (R:AB B D S s.heap) (fo:B5 B names L D S J s.heap)
  (O:∀v c d C s',W v C->AB B d C s'.heap->Af s'.heap v c->wpAny (model B.prog B.w) A (call f c) (AS B d C s' Q) BG s'):
  wpAny (model B.prog B.w) A (eval (.Call (.Name x X) (e::F) [] p) E) (AS B D S s Q) BG s:=by
 refine(?_:wpAny _ A (do callWith p (←eval (.Name x X) E) [] (backTo p (starEach (e::F) E)) []) _ _ s);refine AR (GS (by rw[H.sc];exact H.kind) (by unfold Env.kindOf;rw[H.sc];exact M) (Calls.loadGlobal_builtin (by rw[H.globals];exact G.g.keeps R.Ao) t (by rw[H.builtins];exact G.b.keeps R.Ao) g ?_) hd);have y:=B6 (V.2.2 E L A _ J S D s p H K h R fo) (Q':=λc U=>wpAny (model B.prog B.w) A (call f c) (AS B D S s Q) BG U) (λc U w=>by
  refine HF w λv l A0 N o Y P=>?_;exact B6 (O v c A0 l U N o P) (λZ Z q=>AS.trans Y q) λZ Z x=>x) λZ Z x=>x
 refine Ac (λa n=>?_) (V.2.1 e F rfl E);obtain ⟨id,rfl⟩| ⟨T,rfl⟩:=j
 ·exact PyProof.Rows.callWith_builtin1 y a (n p)
 ·exact PyProof.Rows.callWith_type1 y a (n p)
def VN{h:Heap}{x:AV}{I:List Value}(v:Af h [x] I):∃c,I=[c]/\AF h x c:=by
 cases v with| cons a b=>cases b;exact⟨_,rfl,a⟩
def VO{h:Heap}{x y:AV}{I:List Value}(v:Af h [x,y] I):∃c d,I=[c,d]/\AF h x c/\AF h y d:=by
 cases v with| cons a b=>cases b with| cons b c=>cases c;exact⟨_,_,rfl,a,b⟩
def Js(G:Bw B){m:ME}{x:Str}{f:Value}{a:Expr}{X p:Pos}(M:scope.names.lookup x=some .globalImplicit)(hd:(x==("__debug__":Str))=false)(o:G.mg x=none)(g:G.mb x=some f)
  (l:(∃id,f= .builtin id)\/∃T,f= .type T) (H:AD I B scope names r m a) (y:∀e,starEach [a] e=(false,eval a e)::starEach [] e) {e:Env} {L:Fm} {A:Around} {J:AE} {S:AH} {D:Addr->Addr} {s:Shared} {W:AV->AH->Prop} {Q:PE}
  (U:Bv e scope L) (t:Bn r A) (h:B3 I m W J S) (R:AB B D S s.heap) (fo:B5 B names L D S J s.heap)
  (O:∀v F d E s',W v E->AB B d E s'.heap->AF s'.heap v F->wpAny (model B.prog B.w) A (call f [F]) (AS B d E s' Q) BG s'):
  wpAny (model B.prog B.w) A (eval (.Call (.Name x X) [a] [] p) e) (AS B D S s Q) BG s:=
 VM G M hd o g l (L3 H NC y) (W:=λV S=>match V with| [v]=>W v S| _=>False) U t h R fo λV Y d E s' w j v=>by
  match V,w with
  | [x],w=>refine AJ (VN v) λc C n=>?_;subst C;exact O x c d E s' w j n
def VP(G:Bw B){m M:ME}{x:Str}{f:Value}{a b:Expr}{Jt P:Pos}(N:scope.names.lookup x=some .globalImplicit)(hd:(x==("__debug__":Str))=false)(t:G.mg x=none)(n:G.mb x=some f)
  (p:(∃id,f= .builtin id)\/∃T,f= .type T) (H:AD I B scope names r m a) (o:AD I B scope names r M b) (A0:∀e,starEach [a,b] e=(false,eval a e)::starEach [b] e) (K:∀e,starEach [b] e=(false,eval b e)::starEach [] e) {e:Env} {L:Fm} {A:Around} {J:AE} {S:AH} {D:Addr->Addr} {s:Shared} {W:AV->AV->AH->Prop} {Q:PE}
  (U:Bv e scope L) (C:Bn r A) (h:B3 I m (λx S=>B3 I M (λy S=>W x y S) J S) J S) (R:AB B D S s.heap) (fo:B5 B names L D S J s.heap)
  (O:∀v u F g l E s',W v u E->AB B l E s'.heap->AF s'.heap v F->AF s'.heap u g->wpAny (model B.prog B.w) A (call f [F,g]) (AS B l E s' Q) BG s'):
  wpAny (model B.prog B.w) A (eval (.Call (.Name x Jt) [a,b] [] P) e) (AS B D S s Q) BG s:=
 VM G N hd t n p (L3 H (L3 o NC K) A0) (W:=λV S=>match V with| [v,u]=>W v u S| _=>False) U C h R fo λV F7 l E s' w j v=>by
  match V,w with
  | [x,y],w=>refine C2 (VO v) λc d Br X Y=>?_;subst Br;exact O x y c d l E s' w j X Y
def insI_perm(x:Int)(l:List Int):(insI x l).Perm (x::l):=by
 induction l with
 | nil=>exact .refl _
 | cons y l C=>
  rw[It];split
  ·exact .refl _
  ·exact(List.Perm.cons y C).trans (.swap x y l)
def sortI_perm(l:List Int):(sortI l).Perm l:=by
 induction l with
 | nil=>exact .refl _
 | cons x l C=>exact(insI_perm x _).trans (.cons x C)
set_option tactic.hygienic true in
def dZ(x:Int)(l:List Int)(h:l.Pairwise (· <=·)):(insI x l).Pairwise (· <=·):=by
 induction l with
 | nil=>exact List.pairwise_singleton _ _
 | cons y l C=>
  rw[It];rw[List.pairwise_cons] at h;split
  ·rename_i W;refine List.pairwise_cons.mpr ⟨λz H=>?_,List.pairwise_cons.mpr h⟩;obtain rfl| H:=Co.mp H
   ·exact W
   ·exact Em W (h.1 z H)
  ·rename_i W;refine List.pairwise_cons.mpr ⟨λz H=>?_,C h.2⟩;obtain rfl| H:=Co.mp ((insI_perm x l).mem_iff.mp H)
   ·exact A3 0xb0880222c0208880 [] [_,_] W
   ·exact h.1 z H
def dc(l:List Int):(sortI l).Pairwise (· <=·):=by
 induction l with
 | nil=>exact .nil
 | cons x l C=>exact dZ x _ C
def Py(p:m.Perm l)(h:m.Pairwise (· <=·)):m=sortI l:=
 List.Perm.eq_of_pairwise (λa b Z Z H n=>Int.le_antisymm H n) h (dc l) (p.trans (sortI_perm l).symm)
def tyB{id:String}:(∃i,Value.builtin id= .builtin i)\/∃T,Value.builtin id= .type T:=.inl ⟨_,rfl⟩
def Pz{id:String}:(∃i,Value.type id= .builtin i)\/∃T,Value.type id= .type T:=.inr ⟨_,rfl⟩
def de{o:Addr}{A:Around}{E:Value->Shared->Prop}{s:Shared}{x:List (KY×Addr×Value)}(hd:(o==sysModules)=false)(H:s.heap.DictOfH (HG B.prog B.w) o x)(n:(x.length:Int)<2^63){Q:Value->Shared->Prop}
  (h:Q (.int x.length (s.toks+1)) {s with toks:=s.toks+1+1}):wpAny (model B.prog B.w) A (call (.builtin "len") [.ref o]) Q E s:=by
 refine Calls.call_function_entry kind_len plain_len entry_len (args_len1 _) ?_;unfold Builtin.«len»;refine AR (m:=oneArg "len" _) (An ?_);refine AR (m:=callSpecial? (.ref o) (Str.ofString "__len__")) (wpAny_callSpecial?_slot (name:=Str.ofString "__len__") H.typeIs PySem.F.slot_dict_len
  (wpAny_call_entry PySem.F.slot_dict_len H.typeIs PySem.F.entry_dict_len ?_ (PySem.F.args_dict_len_1 _)))
 ·obtain ⟨O,e,p,A0,C,K,he,R,S⟩:=H;refine(?_:wpAny _ _ (dictSize o>>= _) _ _ s);unfold dictSize;refine AR (AR (wpAny_dictEntries A0 K (An ?_)));refine(?_:wpAny _ _ (Builtin.Dict.pendingCount o>>= _) _ _ s);refine AR (wpAny_pendingCount_other hd ?_);haveI c:e.size=x.length:=size_of_entries he;refine(?_:wpAny _ _ (retInt ((e.size+0:Nat):Int)) _ _ s);rw[Nat.add_zero,c];refine AR (wpAny_mkInt (An ⟨_,rfl,?_⟩));refine AR (ER (An ?_));refine AR (wpAny_letGo ?_);rw[A5 (by exact Ae 0x46000500441 [_] [])];refine(?_:wpAny _ _ (if((x.length:Nat):Int)>=2^63 then _ else _) _ _ _);rw[A5 (by exact A3 0x4594014000000000000000346c4000000000000000346500441 [_] [] n)];exact AR (wpAny_mkInt (An ⟨_,rfl,h⟩))
def df(F:Facts B K)(G:Bw B)(O:True){m:ME}{x:Str}{a:Expr}{X P:Pos}(N:scope.names.lookup x=some .globalImplicit)(hd:(x==("__debug__":Str))=false)(C:G.mg x=none)(d:G.mb x=some (.builtin "len"))
  (M:AD I B scope names r m a) (y:∀e,starEach [a] e=(false,eval a e)::starEach [] e):AD I B scope names r (.len m) (.Call (.Name x X) [a] [] P):=λe L A Q J σ D s U A0 h R f=>by
 refine Js G N hd C d tyB M y U A0 h R f λv W l Aq s' w j T=>?_;refine AV.N9 T w (λu b t g w=>?_) λo w=>?_
 ·refine Ac (λH S=>?_) w;unfold room at H;have c:b.size=u.length:=by rw[<-g,Ak,Array.length_toList]
  exact len_bytes (by rw[c];exact A3 0x80800000000024600a3d09008300441 [_] [] H) (AS.pure (by rw[c];exact S) j (.int _ _))
 ·rcases w with⟨u,E,H,S⟩| ⟨u,E,H,S⟩<;>unfold room at H
  ·refine B9 (j.list E) λY n p V=>?_;refine call_len_list (IsL.isList p) (by rw[BH,V.length];exact A3 0x18800000000000000068ca00a3d09008300441 [_] [] H) (AS.pure (by rw[BH,V.length];exact S) j (.int _ _))
  ·refine AJ (j.AZ _ _ E) λxs p V=>?_;exact de (L4 F j O (.inr (nn E))) p (by rw[V.length];exact A3 0x18800000000000000068ca00a3d09008300441 [_] [] H) (AS.pure (by rw[V.length];exact S) j (.int _ _))
def dh(G:Bw B){m M:ME}{x:Str}{a b:Expr}{X p:Pos}(O:scope.names.lookup x=some .globalImplicit)(hd:(x==("__debug__":Str))=false)(o:G.mg x=none)(d:G.mb x=some (.builtin "max"))
  (N:AD I B scope names r m a) (y:AD I B scope names r M b) (g:∀e,starEach [a,b] e=(false,eval a e)::starEach [b] e) (A0:∀e,starEach [b] e=(false,eval b e)::starEach [] e):AD I B scope names r (.mx m M) (.Call (.Name x X) [a,b] [] p):=λe L A Q J S D s U E h R f=>by
 refine VP G O hd o d tyB N y g A0 U E h R f λv u C F n W s' w l P V=>?_;refine AF.CS P w λi t w=>AF.CS V w λj T H=>?_;refine max_two_ints E.handled λK tk k=>?_;by_cases c:j>i
 ·rw[A6 c];exact AS.grown (by rw[Int.max_eq_right (A3 0x584401302200880 [] [_,_] c)] at H;exact H) l k (.int _ _)
 ·rw[A5 c];exact AS.grown (by rw[Int.max_eq_left (A3 0xb088022300208880 [] [_,_] c)] at H;exact H) l k (.int _ _)
def di(G:Bw B){m M:ME}{x:Str}{a b:Expr}{X p:Pos}(O:scope.names.lookup x=some .globalImplicit)(hd:(x==("__debug__":Str))=false)(o:G.mg x=none)(d:G.mb x=some (.builtin "min"))
  (N:AD I B scope names r m a) (y:AD I B scope names r M b) (g:∀e,starEach [a,b] e=(false,eval a e)::starEach [b] e) (A0:∀e,starEach [b] e=(false,eval b e)::starEach [] e):AD I B scope names r (.mn m M) (.Call (.Name x X) [a,b] [] p):=λe L A Q J S D s U E h R f=>by
 refine VP G O hd o d tyB N y g A0 U E h R f λv u C F n W s' w l P V=>?_;refine AF.CS P w λi t w=>AF.CS V w λj T H=>?_;refine min_two_ints E.handled λK tk k=>?_;by_cases c:j<i
 ·rw[A6 c];exact AS.grown (by rw[Int.min_eq_right (A3 0x584401302200880 [] [_,_] c)] at H;exact H) l k (.int _ _)
 ·rw[A5 c];exact AS.grown (by rw[Int.min_eq_left (A3 0xb088022300208880 [] [_,_] c)] at H;exact H) l k (.int _ _)
def dj(G:Bw B){m:ME}{x:Str}{a:Expr}{X P:Pos}(N:scope.names.lookup x=some .globalImplicit)(hd:(x==("__debug__":Str))=false)(t:G.mg x=none)(d:G.mb x=some (.builtin "sorted"))
  (M:AD I B scope names r m a) (y:∀E,starEach [a] E=(false,eval a E)::starEach [] E):AD I B scope names r (.Jm m) (.Call (.Name x X) [a] [] P):=λE L A Q J σ D s U v h R f=>by
 refine Js G N hd t d tyB M y U v h R f λva W A0 Aq s' w j O=>?_;refine AF.CG O w λo w=>Ah w λu F w=>Ah w λY T w=>?_;refine Ac (λhlen S=>?_) w;cases NH T;refine B9 (j.list F) λC n p V=>?_;refine sorted_ints (IsL.isList p) (intsAre_of V) (by rw[V.length,Ak];exact hlen) λout VQ H l K=>?_;refine AW (sortedAll_at s'.heap C out) λe g=>?_;cases Py l K;refine L6 (vs:=out.toList) (n:=e) j (I1 (Nat.le_succ _)) (λc o q=>sortedAll_old q) ?_ (Pt H) S;exact g
def dm(G:Bw B){m:ME}{x:Str}{a:Expr}{X P:Pos}(N:scope.names.lookup x=some .globalImplicit)(hd:(x==("__debug__":Str))=false)(t:G.mg x=none)(c:G.mb x=some (.type "tuple"))
  (M:AD I B scope names r m a) (y:∀e,starEach [a] e=(false,eval a e)::starEach [] e):AD I B scope names r (.Pb m) (.Call (.Name x X) [a] [] P):=λe L A Q J A0 D s U E h R f=>by
 refine Js G N hd t c Pz M y U E h R f λv C l W s' w j O=>?_;refine AF.CG O w λo w=>Ah w λu F w=>?_;refine Ac (λT S=>?_) w;refine B9 (j.list F) λd n p V=>?_;refine call_tuple_list (IsL.isList p) (λH k=>?_) (by rw[BH,V.length];exact EH T);haveI K:∀b o,s'.heap.get? b=some o->(H.push {cls:=.type "tuple",data:=.seq d.toArray}).get? b=some o:=λb o q=>CZ _ (k b o q);refine AS.grown S j K (.AA (n:=0) ⟨_,ED _ rfl,rfl,rfl⟩ (V.mono (BM.of K)))
def dp(G:Bw B){M:ME}{x:Str}{a:Expr}{K P:Pos}(O:scope.names.lookup x=some .globalImplicit)(hd:(x==("__debug__":Str))=false)(A0:G.mg x=none)(d:G.mb x=some (.type "list"))
  (N:AD I B scope names r M a) (y:∀n,starEach [a] n=(false,eval a n)::starEach [] n):AD I B scope names r (.PZ M) (.Call (.Name x K) [a] [] P):=λn L A Qa J σ Dc s U F h R f=>by
 refine Js G O hd A0 d Pz N y U F h R f λv cv D' Aq s' w j Q=>?_;refine Ah w λu C w=>?_;refine Ac (λX W=>?_) w;cases AV.VC C;cases Q with
 | @bytes _ b t g=>
  haveI l:b.size=u.length:=by rw[<-g,Ak,Array.length_toList]
  refine dY F.handled b t (λh' tk acc c k p it=>?_) (by rw[l];exact EH X);refine L6 (vs:=acc.toList) (n:=c) j (tooBig _) k (p) ?_ W;haveI o:acc.size=b.size:=it.1;haveI:∀(m:List UInt8) (V:List Value),V.length=m.length->(∀(i:Nat) (v:Value),V[i]?=some v->∃(c:UInt8) (u:Tok),(m:List UInt8)[(i:Nat)]?=some c/\v=Value.int (c.toNat:Int) u)->Af s'.heap ((m.map λx=>(x.toNat:Int)).map .int) V:=by
   intro m;induction m with
   | nil=>intro V e _;cases V with| nil=>exact .nil| cons _ _=>cases e
   | cons c m Y=>
    intro V e H;cases V with
    | nil=>cases e
    | cons v V=>
     refine B9 (H 0 v rfl) λD T E S=>?_;simp at E;subst E;subst S;exact .cons (.int _ _) (Y V (by simpa using e) λi v h=>by exact(H (i+1) v (h)))
  refine(g)▸?_;refine this b.toList acc.toList (o) λi v H=>?_;refine B9 (it.2 i v (by rw[<-Array.getElem?_toList];exact H)) λD T E S=>?_;exact⟨D,T,by rw[Array.getElem?_toList];exact E,S⟩
def dt{C:List Int}(h:∀i∈C,0<=i/\i<256):(byteArr C).toList.map (λx=>(x.toNat:Int))=C:=KBa.ints_make h
def du(G:Bw B){m:ME}{x:Str}{a:Expr}{X P:Pos}(N:scope.names.lookup x=some .globalImplicit)(hd:(x==("__debug__":Str))=false)(F:G.mg x=none)(c:G.mb x=some (.type "bytes"))
  (M:AD I B scope names r m a) (y:∀e,starEach [a] e=(false,eval a e)::starEach [] e):AD I B scope names r (.Pc m) (.Call (.Name x X) [a] [] P):=λe L A Q J σ D s U E h R f=>by
 refine Js G N hd F c Pz M y U E h R f λv A0 d Aq s' w j O=>?_;refine AF.CG O w λo w=>Ah w λu C w=>Ah w λg T w=>?_;refine C9 w λW H S=>?_;cases NH T;refine B9 (j.list C) λl n p V=>?_;refine call_bytes_ints (IsL.isList p) (intsAre_of V) H (by rw[V.length,Ak];exact EH W) E.handled λY t k K=>?_;exact AS.grown S j K (.bytes _ (dt H))
def dw(G:Bw B)(M:scope.names.lookup x=some .globalImplicit)(hd:(x==("__debug__":Str))=false)(p:G.mg x=none)(c:G.mb x=some (.type "set")):
  AD I B scope names r .EG (.Call (.Name x X) [] [] P):=λm L A Q J F D s H t h R f=>by
 refine AR (GS (by rw[H.sc];exact H.kind) (by unfold Env.kindOf;rw[H.sc];exact M) (Calls.loadGlobal_builtin (by rw[H.globals];exact G.g.keeps R.Ao) p (by rw[H.builtins];exact G.b.keeps R.Ao) c ?_) hd);refine PyProof.Rows.callWith_type0 (call_set_0 λl=>?_);haveI S:=tooBig s.heap;have k:∀b o,s.heap.get? b=some o->(s.heap.push {cls:=.type "set",dict:=none,data:=.set #[] 0 (.fresh 0 0 l)}).get? b=some o:=λb o q=>CZ _ q;refine Ac (λj K=>?_) (R.nS (l:=[]) S (λb o Z q=>k b o q) .nil (by
  refine⟨_,#[],0,_,ED _ rfl,⟨rfl,rfl,rfl⟩,rfl,?_,?_,?_,?_,?_⟩
  ·intro e g;simp at g
  ·intro k;simp
  all_goals first| rfl| decide| decide+kernel))
 refine(λZ E=>E (.obj s.heap.objs.size) _ D (h _ (Ep (R.free S))) j (λZ E=>E (λb o q Z=>k b o q) (λb x=>?_) rfl rfl) (.obj _));obtain x| rfl:=Ui x;exact .inl x;exact .inr S
end
def dx(L:Fm)(S:AH)(D:Addr->Addr)(s:Shared)(E:AH)(d:Addr->Addr)(s':Shared)(l:Prop):Prop:=
 (∀b o,s.heap.get? b=some o->¬B2 S D b->b≠L.ns->(∀x,L.cell≠some (x,b))->s'.heap.get? b=some o)->(∀b,B2 E d b->B2 S D b\/s.heap.get? b=none)->(s'.gens=s.gens)->(s'.os=s.os)->l
def BV(L:Fm)(S:AH)(D:Addr->Addr)(s:Shared)(E:AH)(d:Addr->Addr)(s':Shared):Prop:=Ch (dx L S D s E d s')
section
variable{L:Fm}(zh:BV L σ D s Aq D' s')
def BV.Ao:=zh _ λz Z Z Z=>z
def BV.own:=zh _ λZ z Z Z=>z
def BV.gens:=zh _ λZ Z z Z=>z
def BV.os:=zh _ λZ Z Z z=>z
end
def Ext.toS{L:Fm}(x:Ext S D s E d s'):BV L S D s E d s':=(λZ B=>B (λb o e n Z Z=>x.Ao b o e n) x.own x.gens x.os)
def BV.refl(L:Fm)(S:AH)(D:Addr->Addr)(s:Shared):BV L S D s S D s:=(Ext.refl S D s).toS
def BV.trans{L:Fm}{I S M:AH}(r:∃o,s.heap.get? L.ns=some o)(x:BV L I D s S d Q)(y:BV L S d Q M v w)(T:¬B2 S d L.ns)(C:∀z c,L.cell=some (z,c)->¬B2 S d c)(O:∀z c,L.cell=some (z,c)->∃o,s.heap.get? c=some o)(G:¬B2 M v L.ns)(H:∀z c,L.cell=some (z,c)->¬B2 M v c):BV L I D s M v w:=λZ B=>B
  (λb o e n p q=>y.Ao b o (x.Ao b o e n p q) (λh=>(x.own b h).elim n λz=>by rw[e] at z;cases z) p q)
  (λb h=>by
   by_cases K:b=L.ns
   ·subst K;exact Ad h G
   by_cases E:∃z,L.cell=some (z,b)
   ·refine AW E λz E=>?_;exact Ad h (H z b E)
   refine(y.own b h).elim (x.own b) λq=>?_;cases e:s.heap.get? b with
   | none=>exact .inr rfl
   | some o=>
    by_cases n:B2 I D b
    ·exact .inl n
    ·rw[x.Ao b o e n K (λz f=>E ⟨z,f⟩)] at q;cases q)
  (y.gens.trans x.gens)
  (y.os.trans x.os)
def dy (h:Heap):Fl->Flow->Prop
 | .next,.next=>True
 | .brk,.brk=>True
 | .cont,.cont=>True
 | .ret v,.ret c=>AF h v c
 | _,_=>False
def dz(B:Av)(n:List Str)(L:Fm)(D:Addr->Addr)(I:AH)(s:Shared)(Q:Fl->AE->AH->Prop)(F:Flow)(s':Shared)(m:Prop):Prop:=
 ∀(f:Fl) (l:AE) (S:AH) (d:Addr->Addr),Q f l S->dy s'.heap f F->AB B d S s'.heap->B5 B n L d S l s'.heap->BV L I D s S d s'->m
def BO(B:Av)(n:List Str)(L:Fm)(D:Addr->Addr)(S:AH)(s:Shared)(Q:Fl->AE->AH->Prop)(f:Flow)(s':Shared):Prop:=Ch (dz B n L D S s Q f s')
section
variable(I:Ag)(B:Av)
def CL(l:Scope)(n:List Str)(r:Nat)(m:MS)(E:Stmt):Prop:=
 ∀(e:Env) (L:Fm) (A:Around) (Q:Fl->AE->AH->Prop) (J:AE) (S:AH) (D:Addr->Addr) (s:Shared),Bv e l L->Bn r A->N8 I m Q J S->AB B D S s.heap->B5 B n L D S J s.heap->
  wpAny (model B.prog B.w) A (exec E e) (BO B n L D S s Q) BG s
def DK(l:Scope)(n:List Str)(r:Nat)(m:List MS)(E:List Stmt):Prop:=
 ∀(e:Env) (L:Fm) (A:Around) (Q:Fl->AE->AH->Prop) (J:AE) (S:AH) (D:Addr->Addr) (s:Shared),Bv e l L->Bn r A->AP I m Q J S->AB B D S s.heap->B5 B n L D S J s.heap->
  wpAny (model B.prog B.w) A (execs E e) (BO B n L D S s Q) BG s
end
section
variable{I:Ag}{B:Av}{K:Frag}{scope:Scope}{names:List Str}{r:Nat}{L:Fm}{D:Addr->Addr}{σ:AH}{s:Shared}{J:AE}
def B5.Iz(f:B5 B names L D σ J h):(∃o,h.get? L.ns=some o)/\¬B2 σ D L.ns/\(∀z c,L.cell=some (z,c)->¬B2 σ D c)/\∀z c,L.cell=some (z,c)->∃o,h.get? c=some o:=by
 refine f _ λm y n N H Z=>?_;obtain ⟨o,l,E,U,_⟩:=y;exact⟨⟨o,U⟩,n,λz c e=>(H z c e).2.1,λz c e=>(H z c e).2.2.2.elim λo w=>w.elim λZ w=>⟨o,w.1⟩⟩
def BO.trans(f:B5 B names L D σ J s.heap)(H:B5 B names L l S m s'.heap)(x:BV L σ D s S l s')(h:BO B names L l S s' Q F U):BO B names L D σ s Q F U:=by
 refine h _ λg T M v q j R A X=>?_;refine Cp f.Iz λa b c d=>?_;refine Cp H.Iz λn e I W=>?_;refine Cp A.Iz λV o w p=>?_;exact(λZ E=>E g T M v q j R A (x.trans a X e I d o w))
def BO.next(h:Q .next J σ)(R:AB B D σ s.heap)(f:B5 B names L D σ J s.heap):BO B names L D σ s Q .next s:=(λZ I=>I .next J σ D h trivial R f (BV.refl _ _ _ _))
def Q1(h:Cz (AX l i v) j=some u):(j=i/\u=v)\/(j≠i/\Cz l j=some u):=by
 rw[Ky] at h⊢;unfold AX at h;by_cases e:j=i
 ·subst e;rw[List.getElem?_set] at h;simp only[if_true] at h;split at h
  ·simp at h;exact .inl ⟨rfl,h.symm⟩
  ·simp at h
 ·rw[List.getElem?_set_ne (C1 e)] at h;exact .inr ⟨e,h⟩
def G2(S:Scope)(n:List Str)(i:Nat)(x:Str):Prop:=
 n[i]?=some x/\n.Nodup/\(S.names.lookup x=some .local\/S.names.lookup x=some .cell)
def L8(f:G2 scope names i x)(h:Bv Y scope L)(R:AB B D σ s.heap)(fa:B5 B names L D σ J s.heap)(hv:AF s.heap v G)(ha:∀s',AB B D σ s'.heap->B5 B names L D σ (AX J i v) s'.heap->BV L σ D s σ D s'->BM s.heap s'.heap->Q () s'):wpAny (model B.prog B.w) Aa (storeName Y x G) Q Ea s:=by
 obtain ⟨X,J0,hk⟩:=f;refine fa _ λmc N A0 O C hm=>?_;have uniq:∀{j:Nat},names[j]?=some x->j=i:=λ{j} e=>by
  haveI h1:=(D6.mp X);haveI h2:=(D6.mp e);refine AW h1 λl1 E=>?_;refine AW h2 λl2 S=>?_;exact(List.getElem_inj J0).mp (S.trans E.symm)
 rcases hk with M| M
 ·have e0:∀c,L.cell≠some (x,c):=λc e=>by have:=(h.cells _ _ e).1;rw[M] at this;cases this
  refine wpAny_storeName_local (by unfold Env.kindOf;rw[h.sc];exact M) (by rw[h.locals];exact N) (λH hn f=>?_) (by rw[h.sc,h.kind];rfl);rw[h.locals] at hn f;have k:∀b o,¬b=L.ns->s.heap.get? b=some o->H.get? b=some o:=λb o n e=>(f.2 b n).trans e;have K:BM s.heap H:=λa o V n e Z d=>k a o (λq=>by
   obtain ⟨o',es,ep,I,m,_⟩:=N;rw[q] at e;rw[e] at I;cases I;rw[d] at m;cases m) e
  have r:AB B D σ H:=R.but (P:=λb=>b=L.ns) k (λb e=>e▸A0) (λb e=>e▸O) λb o V n e g Z d=>by
   obtain ⟨o',es,ep,I,m,_⟩:=N;rw[e] at g;rw[g] at I;cases I;rw[d] at m;cases m
  refine ha {s with heap:=H,toks:=s.toks+1} r (λZ F=>F _ hn A0 O (λy c e=>?_) (λj u e=>?_)) (λZ F=>F (λb o e n pa q=>k b o pa e) (λb x=>.inl x) rfl rfl) K
  ·obtain ⟨a,b,d,o,v,I,hd⟩:=C y c e;exact⟨a,b,d,o,v,k _ _ a I,hd⟩
  ·obtain ⟨rfl,rfl⟩| ⟨U,e⟩:=Q1 e
   ·exact⟨x,G,X,hv.mono K,.inl ⟨e0,A6 rfl⟩⟩
   ·refine C2 (hm j u e) λy p E S T=>?_;refine⟨y,p,E,S.mono K,T.imp (λw=>⟨w.1,?_⟩) λw=>?_⟩
    ·rw[A5 (λ(q:y=x)=>U (uniq (q▸E)))];exact w.2
    ·refine C2 w λc o W w2 w3=>?_;exact⟨c,o,W,k _ _ (C y c W).1 w2,w3⟩
 ·refine AW (h.has _ M) λc l=>?_;obtain ⟨ca,P,cd,co,c0,A,t⟩:=C x c l;refine wpAny_storeName_cell (by rw[h.sc];exact h.kind) (by unfold Env.kindOf;rw[h.sc];exact M) (h.cells _ _ l).2 ⟨co,A,t⟩ λH e8 f=>?_;have k:∀b o,¬b=c->s.heap.get? b=some o->H.get? b=some o:=λb o n e=>(f.2 b n).trans e;have K:BM s.heap H:=λa o V n e Z d=>k a o (λq=>by rw[q,A] at e;cases e;rw[t] at d;cases d) e;have r:AB B D σ H:=R.but (P:=λb=>b=c) k (λb e=>e▸P) (λb e=>e▸cd) λb o V n e g Z d=>by
   rw[e,A] at g;cases g;rw[t] at d;cases d
  obtain ⟨o2,NK,hd2⟩:=e8;refine ha {s with heap:=H} r (λZ F=>F mc (N.sameBut f (C1 ca)) A0 O (λy c' e=>?_) (λj u e=>?_)) (λZ F=>F (λb o e n pa q=>k b o (λz=>q x (z▸l)) e) (λb x=>.inl x) rfl rfl) K
  ·rw[l] at e;cases e;exact⟨ca,P,cd,o2,_,NK,hd2⟩
  ·obtain ⟨rfl,rfl⟩| ⟨U,e⟩:=Q1 e
   ·exact⟨x,G,X,hv.mono K,.inr ⟨c,o2,l,NK,hd2⟩⟩
   ·refine C2 (hm j u e) λy p E S T=>?_;refine⟨y,p,E,S.mono K,T.imp id λw=>?_⟩;refine C2 w λc' o W w2 w3=>?_;rw[l] at W;cases W;exact Ad (uniq E) U
end
section
variable{I:Ag}{B:Av}{K:Frag}{scope:Scope}{names:List Str}{r:Nat}
def e9:DK I B scope names r [] []:=λe L A Q J S D s H t h R f=>wpAny_execs_nil (BO.next h R f)
set_option tactic.hygienic true in
def eA{m:MS}{M:List MS}{G:Stmt}{C:List Stmt}(T:CL I B scope names r m G)(p:DK I B scope names r M C):DK I B scope names r (m::M) (G::C):=λe L A Q J A0 D s U t h R f=>by
 refine wpAny_execs_cons (B6 (T e L A _ J A0 D s U t h R f) (λn V w=>?_) λZ Z x=>x);refine w _ λg l S d q H o F X=>?_;cases g<;>cases n<;>first| exact H.elim| skip
 ·exact B6 (p e L A Q l S d V U t q o F) (λZ Z z=>BO.trans f F X z) λZ Z x=>x
 ·exact(λZ E=>E .brk l S d q H o F X)
 ·exact(λZ E=>E .cont l S d q H o F X)
 ·rename_i v c;exact(λZ E=>E (.ret v) l S d q H o F X)
def B2.le(l:t.le S)(x:B2 t D b):B2 S D b:=by
 rcases x with q| ⟨a,q,rfl⟩| q| q| q| q<;>refine AW (CD q) λc e=>?_
 ·exact .inl (nn (l.cls _ _ e))
 ·exact .inr (.inl ⟨a,by exact nn (l.cls _ _ e),rfl⟩)
 ·exact Km (l.A1 _ _ e)
 ·exact Kn (l.set _ _ e)
 ·exact Ko (l.AL _ _ e)
 ·exact N1 (l.AZ _ _ e)
def AB.le(l:t.le S)(R:AB B D S h):AB B D t h:=λZ I=>I
  (R.Ao)
  (λa c e=>by
   have:=R.inst a c (l.cls a c e);rw[<-l.A4 a (nn e)] at this;exact this)
  (λa c e=>by
   have:=R.EF a c (l.cls a c e);rw[<-l.A4 a (nn e)] at this;exact this)
  (λa i e q=>e (l.bV a i q))
  (λa u e=>R.A1 a u (l.A1 a u e))
  (λa u e=>R.set a u (l.set a u e))
  (λa u e=>R.AL a u (l.AL a u e))
  (λa u e=>R.AZ a u (l.AZ a u e))
  (λb x=>R.Fz b (x.le l))
  (λa b p q=>by
   refine AW (CD p) λc e=>?_;refine AW (CD q) λd E=>?_;exact R.Iq a b (nn (l.cls _ _ e)) (nn (l.cls _ _ E)))
  (λa p=>by
   refine AW (CD p) λc e=>?_;refine Ac (λu v=>?_) (R.HI a (nn (l.cls _ _ e)));refine⟨?_,?_⟩
   ·cases z:t.AL (D a) with
    | none=>rfl
    | some w=>exact nO (l.AL _ _ z) u
   ·cases z:t.AZ (D a) with
    | none=>rfl
    | some w=>exact nO (l.AZ _ _ z) v)
  (λa p=>by
   refine AW (CD p) λc e=>?_;have v:=R.apart a (nn (l.AL _ _ e));cases z:t.AZ a with
   | none=>rfl
   | some w=>exact nO (l.AZ _ _ z) v)
  (λa p=>by
   refine R.HJ a (p.imp (λq=>?_) λq=>?_)<;>refine AW (CD q) λc e=>?_
   ·exact nn (l.AL _ _ e)
   ·exact nn (l.AZ _ _ e))
  (λa u e=>R.Ir a u (l.ro a u e))
def eB(w:DK I B scope names r m S):DK I B scope names r (.ghost::m) S:=λv L A Q J C D s U G h R f=>by
 obtain ⟨t,l,V⟩:=h;have F:B5 B names L D t J s.heap:=by
  refine f _ λM a A0 N H T=>?_;exact(λZ E=>E M a (λx=>A0 (x.le l)) N (λy c e=>⟨(H y c e).1,λx=>(H y c e).2.1 (x.le l),(H y c e).2.2⟩) T)
 exact B6 (w v L A Q J t D s U G V (R.le l) F) (λZ Z z=>BO.trans f F (λZ E=>E (λb o e n p q=>e) (λb x=>.inl (x.le l)) rfl rfl) z) λZ Z x=>x
def VR{L:Fm}(h:Bv e scope L):interactive e=false:=by unfold interactive;rw[h.sc,h.kind];rfl
def eC(S:AD I B scope names r m e)(y:∀E,swapsWith e none p.line E=pure false):CL I B scope names r (.expr m) (.Expr e p):=λE L A Q J C D s H t h R f=>by
 refine wpAny_Expr (B4 S H t h R f λc U v A0 d w o x V=>?_) (VR H) (y E);obtain ⟨F,T⟩:=w;have:BO B names L D C s Q .next U:=(λZ G=>G .next J A0 d T trivial o (f.ext R x) x.toS)
 rcases F with rfl| ⟨i,rfl⟩<;>cases V<;>exact this
def BO.of{L:Fm}(f:B5 B names L D S J s.heap)(R:AB B D S s.heap)(x:Ext S D s t d T)(h:BO B names L d t T Q F w):BO B names L D S s Q F w:=
 BO.trans f (f.ext R x) x.toS h
def eD(W:G2 scope names i x)(S:AD I B scope names r m e)(y:∀E,swapsWith e (some (.Name x p)) P.line E=pure false):CL I B scope names r (.A9 (.J i) m) (.Assign [.Name x p] e P):=λE L A Q J M D s H t h R f=>by
 refine wpAny_Assign_Name (B4 S H t h R f λA0 U v C d T o X V=>?_) (y E);refine L8 W H o (f.ext R X) V λK c F w Z=>BO.of f R X (λZ G=>G .next _ C d T trivial c F w)
def Ju{L:Fm}(f:B5 B names L D S J s.heap)(R:AB B D S s.heap)(h:Hx B D S s (Q .next J) u s'):BO B names L D S s Q .next s':=
 h _ λE d q r x=>(λZ I=>I .next J E d q trivial r (f.ext R x) x.toS)
def eE(F:Facts B K){m M:ME}(W:CJ[i]?=some x)(S:AD I B scope names r m e)(l:AD I B scope names r M o)(y:∀E,swapsWith e (some (.Attribute o x p)) P.line E=pure false):CL I B scope names r (.A9 (.attr M i) m) (.Assign [.Attribute o x p] e P):=λE L A Q J σ D s V v h R f=>by
 refine plainObj_wpAny_Assign_Attribute (B4 S V v h R f λj B8 va Bk T H t G N=>?_) (y E);haveI U:=f.ext R G;refine B4 l V v H t U λn Bl u DA Y w d X O=>?_;refine AF.CG O w λa w=>Ah w λc A0 w=>?_;refine Ac (λg H=>?_) w;haveI C:=U.ext t X;refine B6 (Pk F d A0 W g (N.mono (t.DI rfl X)) H) (λZ D0 w=>?_) λZ Z x=>x;exact BO.of f R (G.trans X) (Ju (Q:=Q) C d w)
def eG{m A0 C:ME}(T:AD I B scope names r m e)(l:AD I B scope names r A0 o)(O:AD I B scope names r C i)(y:∀E,swapsWith e (some (.Subscript o i p)) P.line E=pure false):
  CL I B scope names r (.A9 (.sub A0 C) m) (.Assign [.Subscript o i p] e P):=λE L A Q J σ D s H v h R f=>by
 refine wpAny_Assign_Subscript (B4 T H v h R f λcv B8 va Bk n S t K d=>?_) (y E);have U:=f.ext R K;refine B4 l H v S t U λov Bl u DA Gb Y c X g=>?_;haveI G:=U.ext t X;refine B4 O H v Y c G λiv D0 z Iv VS w M F j=>?_;refine AF.CG g w λaa w=>Ah w λla W w=>AF.CS j w λnc ta w=>?_;refine C9 w λa N w=>?_;refine Ah w λja V S=>?_;refine B6 (bq M W a N V ((d.mono (t.DI rfl X)).mono (c.DI rfl F)) S) (λZ L9 w=>?_) λZ Z x=>x;exact BO.of f R ((K.trans X).trans F) (Ju (Q:=Q) (G.ext c F) M w)
def eH(Fb:Facts B K)(Q2:True){m N C:ME}(W:AD I B scope names r m e)(l:AD I B scope names r N o)(Y:AD I B scope names r C i)(j:∀E,swapsWith e (some (.Subscript o i p)) P.line E=pure false):
  CL I B scope names r (.A9 (.HK N C) m) (.Assign [.Subscript o i p] e P):=λE L Aa Q J σ Dc s U v h R f=>by
 refine wpAny_Assign_Subscript (B4 W U v h R f λcv B8 va Bk EI S t O Ce=>?_) (j E);have F:=f.ext R O;refine B4 l U v S t F λov Bl u DA Gb a c X F8=>?_;haveI G:=F.ext t X;refine B4 Y U v a c G λiv D0 z Iv d w M A L5=>?_;refine AF.CG F8 w λaa w=>Ah w λla H w=>AF.CS L5 w λn ta w=>?_;refine Ac (λg S=>?_) w;have hv:=(Ce.mono (t.DI rfl X)).mono (c.DI rfl A);refine AJ (M.AL _ _ H) λkvs hd V=>?_;refine wpAny_setItem_pairs (intKind_is _ _ n ta) hd (λh' y A0=>?_) (by rw[V.length];exact EH g);refine Ac (λT kT=>?_) (M.uI H A0.extBut y (V.store n hv));refine BO.of f R ((O.trans X).trans A) (Ju (Q:=Q) (u:=()) (G.ext c A) M (λZ D=>D _ d S T (λZ D=>D (λb o q nb=>A0.extBut b o (λz=>nb (z▸Ko H)) q) (λb x=>?_) rfl rfl)));obtain x| rfl:=PX x;exact .inl x;exact .inl (Ko H)
def eI(Fb:Facts B K)(Q2:True){m N C:ME}(y:AD I B scope names r m e)(l:AD I B scope names r N o)(g:AD I B scope names r C i)(hs:∀E,swapsWith e (some (.Subscript o i p)) P.line E=pure false):
  CL I B scope names r (.A9 (.Kv N C) m) (.Assign [.Subscript o i p] e P):=λE L A Q J σ Dc s U t h R f=>by
 refine wpAny_Assign_Subscript (B4 y U t h R f λcv B8 va Bk EI S v O Ce=>?_) (hs E);have V:=f.ext R O;refine B4 l U t S v V λov Bl u DA Gb eJ c X F8=>?_;haveI G:=V.ext v X;refine B4 g U t eJ c G λiv D0 z Iv d w M D L5=>?_;refine AF.CG F8 w λaa w=>Ah w λla H w=>Ah w λnc Y w=>?_;refine Ac (λLA S=>?_) w;refine AJ (Pu (prog:=B.prog) (w:=B.w) Y L5) λa Br n=>?_;subst Br;haveI hv:=(Ce.mono (v.DI rfl X)).mono (c.DI rfl D);refine AJ (M.AZ _ _ H) λxs hd W=>?_;refine wpAny_setItem_heap (by refine(?_:A.units+1+1<cLine);haveI:=t.units;exact A3 0x48428081010002908501e0868a1841004c3 [_,_,_] [] this) n hd (λh' j A0=>?_) (by rw[W.length];exact EH LA);refine Ac (λT kT=>?_) (M.uT H A0.extBut j (W.store nc a hv));refine BO.of f R ((O.trans X).trans D) (Ju (Q:=Q) (u:=()) (G.ext c D) M (λZ F=>F _ d S T (λZ F=>F (λb o q nb=>A0.extBut b o (λz=>nb (z▸N1 H)) q) (λb x=>?_) rfl rfl)));obtain x| rfl:=Uj x;exact .inl x;exact .inl (N1 H)
end
inductive HP(scope:Scope)(names:List Str):List Nat->List Expr->Prop
 | nil:HP scope names [] []
 | cons {i:Nat} {x:Str} {p:Pos} {is:List Nat} {es:List Expr}:G2 scope names i x->HP scope names is es->HP scope names (i::is) (.Name x p::es)
inductive Jv(scope:Scope)(names:List Str):List Nat->List Str->Prop
 | nil:Jv scope names [] []
 | cons {i:Nat} {x:Str} {is:List Nat} {es:List Str}:G2 scope names i x->Jv scope names is es->Jv scope names (i::is) (x::es)
noncomputable def LB (scope:Scope):Env:={scope:=scope,locals:=0,globals:=0,cells:=[]}
def Q3{ts:List Expr}(h:swappedStores ts v (LB scope)=x){L:Fm}(ho:Bv env scope L):swappedStores ts v env=x:=by
 rcases env with⟨sc,_,_,_,_,_,_,_,_⟩
 haveI:=ho.sc;dsimp only at this;subst this;exact h
section
variable{I:Ag}{B:Av}{K:Frag}{scope:Scope}{names:List Str}{r:Nat}
def eK{C:List Nat}(h:HP scope names C E)(e:Env):(assignEach E e).length=C.length/\(assignEach E e).findIdx? (·.1)=none:=by
 induction h with
 | nil=>exact⟨rfl,rfl⟩
 | @cons i x p C E a b X=>
  refine(?_:((false,assign (.Name x p) e)::assignEach E e).length=_/\((false,assign (.Name x p) e)::assignEach E e).findIdx? _=none);refine⟨by simp[X.1],?_⟩;rw[List.findIdx?_cons];simp[X.2]
theorem Q4:∀{is:List Nat} {vs:List AV} {l L:AE},F4 l is vs=some L->is.length=vs.length
 | [],[],_,_,_=>rfl
 | i::is,v::vs,l,L,h=>AO Nat.succ (Q4 (is:=is) (vs:=vs) h)
 | [],_::_,_,_,h=>nomatch h
 | _::_,[],_,_,h=>nomatch h
def BV.trans'{L:Fm}(f:B5 B names L D S J s.heap)(F:B5 B names L D S l Q.heap)(A:B5 B names L D S R w.heap)(x:BV L S D s S D Q)(y:BV L S D Q S D w):BV L S D s S D w:=by
 refine Cp f.Iz λa b c d=>?_;exact x.trans a y b c d b c
def eL{r:Env}{A:Around}{E:Value->Shared->Prop}{L:Fm}{D:Addr->Addr}{S:AH}(U:Bv r scope L){C:List Nat}{m:List Expr}(g:HP scope names C m):∀{V:List AV} {I:List Value} {J l:AE} {s:Shared} {Q:Unit->Shared->Prop},F4 J C V=some l->Af s.heap V I->
  AB B D S s.heap->B5 B names L D S J s.heap->(∀s',AB B D S s'.heap->B5 B names L D S l s'.heap->BV L S D s S D s'->BM s.heap s'.heap->Q () s')->wpAny (model B.prog B.w) A (assignInOrder ((assignEach m r).map (·.2)) I) Q E s:=by
 induction g with
 | nil=>
  intro V I J l s Q H t R f h;cases V with
  | cons _ _=>cases H
  | nil=>
   cases H;exact assignInOrder_nil (h s R f (BV.refl _ _ _ _) λZ Z Z Z e Z Z=>e)
 | @cons i x p C m y g X=>
  intro V I J l s Q H t R f h;cases V with
  | nil=>cases H
  | cons v V=>
   cases t with
   | cons v1 v2=>
    refine assignInOrder_cons (PyProof.Rows.assign_Name (L8 y U R f v1 λT w F N K=>?_));refine X (J:=AX J i v) H (v2.mono K) w F λM j G O A0=>h M j G (BV.trans' f F G N O) λa o V n e c d=>A0 a o V n (K a o V n e c d) c d
def eO{L:Fm}(U:Bv p scope L){C:List Nat}(g:Jv scope names C m):∀{V:List AV} {I:List Value} {J l:AE} {s:Shared} {Q:Unit->Shared->Prop},F4 J C V=some l->Af s.heap V I->
  AB B D S s.heap->B5 B names L D S J s.heap->(∀s',AB B D S s'.heap->B5 B names L D S l s'.heap->BV L S D s S D s'->BM s.heap s'.heap->Q () s')->wpAny (model B.prog B.w) A (assignInOrder (m.map λn=>bindName p n) I) Q E s:=by
 induction g with
 | nil=>
  intro V I J l s Q H r R f h;cases V with
  | cons _ _=>cases H
  | nil=>
   cases H;exact assignInOrder_nil (h s R f (BV.refl _ _ _ _) λZ Z Z Z e Z Z=>e)
 | @cons i x C m y g X=>
  intro V I J l s Q H r R f h;cases V with
  | nil=>cases H
  | cons v V=>
   cases r with
   | cons v1 v2=>
    refine assignInOrder_cons (bindName_ (L8 y U R f v1 λT t F M K=>?_));refine X (J:=AX J i v) H (v2.mono K) t F λw j G N A0=>h w j G (BV.trans' f F G M N) λa o V n e c d=>A0 a o V n (K a o V n e c d) c d
def Q6{tk:Nat}(H:Heap.ExtBut s.heap.objs.size s.heap h):Ext σ D s σ D {s with heap:=h,toks:=tk}:=
 (λZ B=>B (λb o e Z=>H b o (Cc (Cm e)) e) (λb x=>.inl x) rfl rfl)
def Q7(g:A.handled=none)(R:AB B D S s.heap)(r:AF s.heap v c)(F:S.items v=some vs)(T:n=vs.length)(h:∀I H,Heap.ExtBut s.heap.objs.size s.heap H->Af H vs I->Q I {s with heap:=H}):wpAny (model B.prog B.w) A (unpackItems c n none) Q E s:=by
 subst T;cases v<;>first| exact nO F rfl| skip
 ·cases F;cases r with
  | @AA _ a U k p q=>
   haveI hT:IsTup s.heap a U.toArray:=p.AA;haveI:=unpackItems_tuple (prog:=B.prog) (w:=B.w) (E:=E) (Q:=Q) g hT λH f=>h U H f (q.mono (BM.of λb o e=>f b o (Cc (Cm e)) e));rw[BH,q.length] at this;exact this
 ·cases r;refine B9 (R.list F) λU k p q=>?_;haveI:=kun_itemsOf (prog:=B.prog) (w:=B.w) (E:=E) (Q:=Q) g (IsL.isList p) λH f=>h U H f (q.mono (BM.of λb o e=>f b o (Cc (Cm e)) e));rw[BH,q.length] at this;exact this
def VT{L:Fm}(g:A.handled=none)(U:Bv m scope L){C:List Nat}(a:HP scope names C l)(R:AB B D S s.heap)(f:B5 B names L D S J s.heap)(A0:AF s.heap v c)(G:S.items v=some V)(M:F4 J C V=some n)(h:∀s',AB B D S s'.heap->B5 B names L D S n s'.heap->BV L S D s S D s'->Q () s'):wpAny (model B.prog B.w) A (assign (.Tuple l k p) m c) Q E s:=by
 rw[PyProof.Rows.assign_Tuple];refine AR (wpAny_standAt ?_);unfold unpack;refine Ac (λT w=>?_) (eK a m);rw[w,T];refine AR (ER (Q7 g R A0 G (Q4 M) λW t H vr=>?_));haveI x:=Q6 (σ:=S) (D:=D) (s:=s) (tk:=s.toks) H;haveI r:AB B D S t:=R.grow λb o e=>H b o (Cc (Cm e)) e;haveI F:=f.ext R x;exact eL U a M vr r F λK d I X Z=>h K d I (BV.trans' f F I x.toS X)
def eP{C:List Nat}(a:HP scope names C E)(S:AD I B scope names r m e)(y:∀n,swapsWithSole [.Tuple E k p] e P.line n=pure false)(K:swappedStores [.Tuple E k p] e (LB scope)=pure none):
  CL I B scope names r (.A9 (.locs C) m) (.Assign [.Tuple E k p] e P):=λn L A Q J j D s H t h R f=>by
 refine Assign_Tuple (B4 S H t h R f λU W v O d w o x V=>?_) (y n) (Q3 K H);refine Ah w λg A0 w=>?_;refine Ah w λl M T=>?_;haveI F:=f.ext R x;exact VT t.handled H a o F V A0 M λY c G X=>BO.of f R x (λZ N=>N .next l O d T trivial c G X)
def eQ{C:List Nat}(a:Jv scope names C.reverse xs.reverse)(T:AD I B scope names r m e)(y:∀E,swapsWithSole [.Tuple l k p] e P.line E=pure false)(O:swappedStores [.Tuple l k p] e (LB scope)=pure (some xs))(hlen:xs.length=C.length):
  CL I B scope names r (.A9 (.D8 C) m) (.Assign [.Tuple l k p] e P):=λE L Aa Qa J σ Dc s H G h R f=>by
 refine Assign_Tuple_swapped (B4 T H G h R f λcv Q va S D w t X W=>?_) (y E) (Q3 O H);refine Ah w λd K w=>?_;refine Ah w λV M U=>?_;cases AV.GZ K;have F:=f.ext R X;haveI n:=Q4 M;rw[List.length_reverse,List.length_reverse] at n;refine Q7 G.handled t W (vs:=d) rfl (by rw[hlen,n]) λF7 A0 g vr=>?_;haveI x:=Q6 (σ:=S) (D:=D) (s:=Q) (tk:=Q.toks) g;haveI c:AB B D S A0:=t.grow λb o e=>g b o (Cc (Cm e)) e;haveI A:=F.ext t x;exact eO H a M vr.reverse c A λD0 N v Y Z=>BO.of f R X (λZ j=>j .next V S D U trivial N v (BV.trans' F A v x.toS Y))
def eR(W:G2 scope names i x)(M:scope.names.lookup x=some .local)(Q:AD I B scope names r m e):
  CL I B scope names r (.aug i .add m) (.AugAssign (.Name x p) .Add e j):=λenv L A Qa J σ Dc s H O h R f=>by
 refine Ah h λv P h=>?_;refine wpAny_AugAssign_Name ?_;refine(id f) _ λmc a no n0 hc V=>?_;refine C2 (V i v P) λy cv K T E=>?_;obtain rfl:y=x:=BL (K.symm.trans W.1);obtain ⟨_,E⟩| ⟨c,oa,E,_⟩:=E
 ·refine HD (by rw[H.sc];exact H.kind) (by unfold Env.kindOf;rw[H.sc];exact M) (by rw[H.locals];exact a) E ?_;refine B4 Q H O h R f λcu S u G D w o C g=>?_;refine Ah w λn A0 w=>?_;refine Ah w λk ek w=>?_;refine Ac (λLC Y=>?_) w;cases AV.F5 A0;cases AV.F5 ek;rcases T.DU with⟨t,rfl⟩
  rcases g.DU with⟨t',rfl⟩
  have U:=f.ext R C;refine PySem.AutoIntOps.iadd_0 ?_;have X:Ext G D S G D {S with toks:=S.toks+1}:=(λZ F=>F (λZ Z e Z=>e) (λZ x=>.inl x) rfl rfl);refine L8 (s:={S with toks:=S.toks+1}) W H o (U.ext o X) (.int (n+k) S.toks) λBl d N l Z=>BO.of f R (C.trans X) (λZ F=>F .next _ G D Y trivial d N l)
 ·have:=(H.cells _ _ E).1;rw[M] at this;cases this
def eS(F:Facts B K)(hx:names[i]?=some x)(hl:scope.names.lookup x=some .local)(hd:(x==("__debug__":Str))=false)(O:CJ[j]?=some y)(h1:AD I B scope names r m e):
  CL I B scope names r (.augA i j .add m) (.AugAssign (.Attribute (.Name x xp) y pa) .Add e pos):=λenv L Aa Q J D Dc s H v h R f=>by
 refine Ah h λva hv W=>?_;refine Ah W λa l G=>?_;refine Ah G λu hu w3=>?_;clear h W G;cases AV.G1 l;refine wpAny_AugAssign_AttributeAny ?_;haveI h0:B3 I (.J i) (λw T=>w= .obj a/\T=D) J D:=pO_i hv ⟨rfl,rfl⟩;refine B4 (Pn (I:=I) (r:=r) hx hl hd) H v h0 R f λco J4 w0 VU eT w Y X g=>?_;refine Ac (λE U=>?_) w;rw[U] at Y X;rw[E] at g;cases g.F6;haveI P:=f.ext R X;refine B6 (Ux F Y O hu (Q:=λw T=>w=u/\T=D) ⟨rfl,rfl⟩) (λcu B8 w=>?_) λZ Z x=>x;refine w _ λW NL EI y3 o A M=>?_;rcases y3 with⟨E,U⟩
 rw[U] at o A;rw[E] at M;have V:=P.ext Y A;refine B4 h1 H v w3 o V λcz S z N d w c A0 F8=>?_;refine Ah w λnc p w=>?_;refine Ah w λk ek w=>?_;refine Ac (λLC w=>?_) w;refine Ah w λcb hc w=>?_;refine Ac (λeU hq=>?_) w;cases AV.F5 p;cases AV.F5 ek;rcases M.DU with⟨t,rfl⟩
 rcases F8.DU with⟨t',rfl⟩
 have n:=V.ext o A0;refine PySem.AutoIntOps.iadd_0 ?_;haveI C:Ext N d S N d {S with toks:=S.toks+1}:=(λZ zK=>zK (λZ Z e Z=>e) (λZ x=>.inl x) rfl rfl);refine B6 (Pk (s:={S with toks:=S.toks+1}) (Q:=λT=>Q .next J T) F c hc O eU (.int (nc+k) S.toks) hq) (λZ D0 w=>?_) λZ Z x=>x;exact BO.of f R (((X.trans A).trans A0).trans C) (Ju (Q:=Q) (n.ext c C) c w)
def eV{m M:List MS}(C:E0 I B scope names r E c)(N:DK I B scope names r m a)(g:DK I B scope names r M b):CL I B scope names r (.ite E m M) (.If c a b p):=λe L A Q J S D s H v h R f=>by
 refine wpAny_If (B6 (C e L A (λt S=>(t=true->AP I m Q J S)/\(t=false->AP I M Q J S)) J S D s H v h R f) (λt T w=>?_) λZ Z x=>x);refine w _ λF d y o X=>?_;rcases y with⟨j,hf⟩
 cases t with
 | true=>rw[A6 rfl];exact B6 (N e L A _ J F d T H v (j rfl) o (f.ext R X)) (λZ Z q=>BO.of f R X q) λZ Z x=>x
 | false=>rw[A5 (by decide)];exact B6 (g e L A _ J F d T H v (hf rfl) o (f.ext R X)) (λZ Z q=>BO.of f R X q) λZ Z x=>x
def eW(H:AD I B scope names r m e):CL I B scope names r (.ret m) (.Return (some e) p):=λn L A Q J F D s U t h R f=>by
 refine wpAny_Return_some (B4 H U t h R f λc T v w d S o x V=>?_);exact(λZ E=>E (.ret v) J w d S V o (f.ext R x) x.toS)
def ec:CL I B scope names r .retN (.Return none p):=λe L A Q J S D s H t h R f=>
 wpAny_Return_none (λZ E=>E (.ret .none) J S D h .none R f (BV.refl _ _ _ _))
def ed:CL I B scope names r .brk (.Break p):=λe L A Q J S D s H t h R f=>wpAny_Break (λZ E=>E .brk J S D h trivial R f (BV.refl _ _ _ _))
def ee:CL I B scope names r .cont (.Continue p):=λe L A Q J S D s H t h R f=>wpAny_Continue (λZ E=>E .cont J S D h trivial R f (BV.refl _ _ _ _))
def ef{S:Stmt}:CL I B scope names r .fail S:=λe L A Q J E D s H t h R f=>h.elim
def eg(hc:E0 I B scope names r a c)(hb:DK I B scope names r e b):CL I B scope names r (.Aj a e) (.While c b [] pos):=λP L A Q J S D s V W ha Ra f=>by
 obtain ⟨C,⟨n,hI⟩,step⟩:=ha;refine wpAny_While (codeAny_mono (codeAny_whileLoop (R:=λq s'=>∃F,q= .ok F/\BO B names L D S s Q F s') (λn s'=>∃Y G p,C n Y G/\AB B p G s'.heap/\B5 B names L p G Y s'.heap/\BV L S D s G p s') ?_ n ⟨J,S,D,hI,Ra,f,BV.refl _ _ _ _⟩) ?_)
 ·intro n j G0;refine HF G0 λl K N ei R U Cr=>?_;have O:∀{F:Flow} {E:Shared} {Q:Fl->AE->AH->Prop},BO B names L N K j Q F E->BO B names L D S s Q F E:=λq=>BO.trans f U Cr q;refine B6 (hc P L A (λt S=>(t=true->AP I e (Kz (λla S=>∃m,m<n/\C m la S) Q) l S)/\(t=false->Q .next l S)) l K N j V W (step n l K ei) R U) (λt E w=>?_) λZ Z x=>x.elim;refine w _ λDA Gb y1 g H=>?_;rcases y1 with⟨ht,h⟩
  haveI T:=U.ext R H;cases t with
  | false=>
   rw[A5 (by decide)];exact wpAny_execs_nil ⟨_,rfl,O (BO.of U R H (BO.next (h rfl) g T))⟩
  | true=>
   rw[A6 rfl];refine B6 (hb P L A _ l DA Gb E V W (ht rfl) g T) (λF D0 w=>?_) λZ Z x=>x.elim;refine(O (BO.of U R H w)) _ λgb o y d q h M v X=>?_;cases gb<;>cases F<;>first| exact h.elim| skip
   ·obtain ⟨m,hm,q⟩:=q;exact⟨m,hm,o,y,d,q,M,v,X⟩
   ·exact⟨_,rfl,λZ A0=>A0 .next o y d q trivial M v X⟩
   ·obtain ⟨m,hm,q⟩:=q;exact⟨m,hm,o,y,d,q,M,v,X⟩
   ·exact⟨_,rfl,λZ A0=>A0 (.ret _) o y d q h M v X⟩
 ·rintro q s' ⟨F,rfl,w⟩;exact w
end
section
variable{I:Ag}{B:Av}{K:Frag}{scope:Scope}{names:List Str}{r:Nat}
def BV.DI{L:Fm}(f:B5 B names L D S J s.heap)(R:AB B D S s.heap)(x:BV L S D s E l s'):BM s.heap s'.heap:=λa o V n e c d=>by
 refine f _ λM Y A0 N h Z=>?_;obtain ⟨O,m,p,H,hd,_⟩:=Y;refine x.Ao a o e (R.Uc e c d) (λq=>?_) λy q=>?_
 ·rw[q,H] at e;cases e;rw[hd] at d;cases d
 ·rcases h y a q with⟨_,_,_,g,v,j,hd2⟩
  rw[j] at e;cases e;rw[hd2] at d;cases d
def Jw(B:Av)(L:Fm)(D:Addr->Addr)(S:AH)(pv:List Addr):Prop:=∀b∈pv,¬B2 S D b/\b≠L.ns/\(∀y,L.cell≠some (y,b))/\B.h0.get? b=none
def ej(B:Av)(A:Around)(N:List Str)(L:Fm)(t:Expr)(C:Addr){X:Type}(l:List AV)(g:AE->AH->Prop)(f w pv:List Addr)(n:X->Nat)(P Md:X->Nat->Value->Heap->Prop)(St:X->Nat->Heap->Prop)(V:X->Heap->Prop)(m:Prop):Prop:=
 (∀x,KTurns B.prog B.w A t C f w (n x) (P x) (Md x) (St x))->
 (∀x h,V x h->n x=l.length)->
 (∀x i h,St x i h->∀b∈pv,∃o,h.get? b=some o)->
 (∀S D h H J,AB B D S h->g J S->B5 B N L D S J h->Jw B L D S pv->((∃x i,St x i h)\/∃x i v,Md x i v h)->(∀b o,b∉w->h.get? b=some o->H.get? b=some o)->
  AB B D S H/\B5 B N L D S J H/\∀x,V x h->V x H)->
 (∀b∈w,b∈pv)->
 (∀x i v h,P x i v h->V x h->∃y,l[i]?=some y/\AF h y v)->
 (∀x i S D J h H,St x i h->V x h->BM h H->(∀b∈pv,∀o,h.get? b=some o->H.get? b=some o)->AB B D S H->g J S->∃I,St I i H/\V I H)->m
def Jx(B:Av)(A:Around)(N:List Str)(L:Fm)(t:Expr)(C:Addr){X:Type}(l:List AV)(g:AE->AH->Prop)(f w pv:List Addr)(n:X->Nat)(P Md:X->Nat->Value->Heap->Prop)(St:X->Nat->Heap->Prop)(V:X->Heap->Prop):Prop:=
 ∀m:Prop,ej B A N L t C l g f w pv n P Md St V m->m
def HQ(B:Av)(m:Scope)(n:List Str)(C:List Nat)(t:Expr):Prop:=
 ∀(e:Env) (A:Around) (L:Fm) (D:Addr->Addr) (S:AH) (s:Shared) (J l:AE) (v:AV) (c:Value) (Q:Unit->Shared->Prop) (E:Value->Shared->Prop),A.handled=none->Bv e m L->AB B D S s.heap->B5 B n L D S J s.heap->AF s.heap v c->bindTo J C v=some l->
  (∀s',AB B D S s'.heap->B5 B n L D S l s'.heap->BV L S D s S D s'->Q () s')->wpAny (model B.prog B.w) A (assign t e c) Q E s
def el(y:G2 scope names i x):HQ B scope names [i] (.Name x p):=λe A L D S s J l v c Q E g U R f t H h=>by
 cases H;exact PyProof.Rows.assign_Name (L8 y U R f t λs' r F X Z=>h s' r F X)
def er{C:List Nat}(a:HP scope names (i::j::C) l):HQ B scope names (i::j::C) (.Tuple l k p):=λn A L D S s J m v c Q E g U R f r H h=>by
 haveI H:v.D9.bind (F4 J (i::j::C))=some m:=H;rw[CP] at H;obtain ⟨V,e,H⟩:=H;cases AV.GZ e;exact VT g U a R f r rfl H h
def F9{A:Type}{l:List A}{i:Nat}{z:A}(h:l[i]?=some z):l.drop i=z::l.drop (i+1):=by
 refine AW (D6.1 h) λH e=>?_;rw[List.drop_eq_getElem_cons H,e]
def LD{g:AE->AH->Prop}{C:List Nat}{B:(Fl->AE->AH->Prop)->AE->AH->Prop}{Q:Fl->AE->AH->Prop}{l:List AV}{J:AE}{S:AH}(h:forA g C B Q l J S):g J S:=by
 cases l<;>exact h.1
def et(I:Ag)(B:Av)(n:List Str)(L:Fm){X:Type}(l:List AV)(g:AE->AH->Prop)(pv:List Addr)(St:X->Nat->Heap->Prop)(V:X->Heap->Prop)(C:List Nat)(M:List MS)(Q:Fl->AE->AH->Prop)(p:AH)(d:Addr->Addr)(Y:Shared)(k:Nat)(s':Shared)(o:Prop):Prop:=
 ∀(i:Nat) (x:X) (m:AE) (S:AH) (D:Addr->Addr),k=l.length+1-i->i<=l.length->forA g C (λK l E=>AP I M K l E) Q (l.drop i) m S->AB B D S s'.heap->B5 B n L D S m s'.heap->BV L p d Y S D s'->Jw B L D S pv->St x i s'.heap->V x s'.heap->o
def VV(I:Ag)(B:Av)(n:List Str)(L:Fm){X:Type}(l:List AV)(g:AE->AH->Prop)(pv:List Addr)(St:X->Nat->Heap->Prop)(V:X->Heap->Prop)(C:List Nat)(m:List MS)(Q:Fl->AE->AH->Prop)(p:AH)(D:Addr->Addr)(S:Shared)(k:Nat)(s':Shared):Prop:=Ch (et I B n L l g pv St V C m Q p D S k s')
def LG{A:Around}{m:Env}{L:Fm}{target:Expr}{C:Addr}{X:Type}{l:List AV}{g:AE->AH->Prop}{fp wr pv:List Addr}{nn:X->Nat}{Pa Md:X->Nat->Value->Heap->Prop}{St:X->Nat->Heap->Prop}{Y:X->Heap->Prop}(KI:Jx B A names L target C l g fp wr pv nn Pa Md St Y){M:List Nat}(ha:HQ B scope names M target){N:List MS}{b:List Stmt}(c:DK I B scope names r N b)(ho:Bv m scope L)(hr:Bn r A)
  {Q:Fl->AE->AH->Prop} {J:AE} {F:AH} {D:Addr->Addr} {s:Shared} {eu:AE} {p:AH} {d:Addr->Addr} {S:Shared} (Q8:B5 B names L d p eu S.heap) (new:∀b∈pv,S.heap.get? b=none) (Jy:BV L p d S F D s)
  (hc:forA g M (λKb l F=>AP I N Kb l F) Q l J F) (Ra:AB B D F s.heap) (fa:B5 B names L D F J s.heap) (pk:Jw B L D F pv) {x:X} (st:St x 0 s.heap) (vx:Y x s.heap):
  codeAny (model B.prog B.w) A (.forLoop target (.ref C) b [] m) (λq s'=>match q with| .ok fa=>BO B names L d p S Q fa s'| .error e=>cameBackBy (model B.prog B.w) A m BG e s') s:=by
 refine KI _ λKt Kh Ka Ks Kw Ki Kr=>?_;refine codeAny_mono (codeAny_forLoop_any (R:=λq s'=>∃v,q= .ok v/\BO B names L d p S Q v s')
  (VV I B names L l g pv St Y M N Q p d S) ?_ (l.length+1)
  (λZ E=>E 0 x J F D rfl (Nat.zero_le _) hc Ra fa Jy pk st vx)) ?_
 ·intro k B8 G0;refine G0 _ λi x a t G y1 hi f DJ Ge Cr U NM Q9=>?_;rcases y1 with rfl
  refine Cp Q8.Iz λa0 b0 c0 d0=>?_;have more:∀{s':Shared} (h:Heap) (tk:Nat),BV L p d S t G s'->(∀b o,b∉wr->s'.heap.get? b=some o->h.get? b=some o)->BV L p d S t G {s' with heap:=h,toks:=tk}:=λ{s'} h tk A0 R=>
   (λZ E=>E (λb o e nc pa q=>R b o (λc=>by exact nO e (new b (Kw b c))) (A0.Ao b o e nc pa q)) A0.own A0.gens A0.os)
  have hg:=LD f;by_cases w:i<l.length
  ·refine(Kt x).item i _ _ _ (by rw[Kh x _ Q9];exact w) NM λva h tk md R=>?_;refine C9 (Ks t G B8.heap h a DJ hg Ge U (.inl ⟨x,i,NM⟩) R) λGd HR vk=>?_;haveI FW:=more h tk Cr R;refine(Kt x).go i va _ _ _ md λH hP VW VX=>?_;refine C9 (Ks t G h H a Gd hg HR U (.inr ⟨x,i,va,md⟩) VX) λNN LH f5=>?_;haveI Jr:=more H tk FW VX;have VY:=f5 x (vk x Q9);refine AJ (Ki x i va H hP VY) λya hy hv=>?_;haveI f:=(F9 hy)▸f;refine AJ (HL f.2) λQA f6 f=>?_;refine ha m A L G t {B8 with heap:=H,toks:=tk} a QA ya va _ _ hr.handled ho NN LH hv f6 λL9 VZ QB NP=>?_;refine B6 (c m L A _ QA t G L9 ho hr f VZ QB) (λv V wa=>?_) λZ Z x=>x.elim;refine wa _ λgf n j K q Vb W y NQ=>?_;refine Cp QB.Iz λa4 b4 c4 d4=>?_;refine Cp y.Iz λa5 b5 c5 d5=>?_;have QC:BV L p d S j K V:=(Jr.trans a0 NP b4 c4 d0 b4 c4).trans a0 NQ b4 c4 d0 b5 c5;haveI kT:BM H V.heap:=λaa o vs nc e cb da=>BV.DI QB VZ NQ aa o vs nc (BV.DI (s:={B8 with heap:=H,toks:=tk}) LH NN NP aa o vs nc e cb da) cb da;haveI f7:∀b∈pv,∀o,H.get? b=some o->V.heap.get? b=some o:=λb c o e=>by
    refine Cp (U b c) λP O T p4=>?_;exact NQ.Ao b o (NP.Ao b o e P O T) P O T
   have again:g n j->forA g M (λKb l F=>AP I N Kb l F) Q (l.drop (i+1)) n j->∃ma,ma<l.length+1-i/\VV I B names L l g pv St Y M N Q p d S ma V:=λf9 fA=>by
    refine AJ (Kr x (i+1) j K n H V.heap VW VY kT f7 W f9) λA0 st' fB=>?_;refine⟨l.length+1-(i+1),by exact A3 0x25210a0200052808021404000a40108482 [_,_] [] w,λZ E=>E (i+1) A0 n j K rfl w fA W y QC (λb c=>?_) st' fB⟩;refine Cp (U b c) λP O T p4=>?_;refine⟨λz=>?_,O,T,p4⟩;refine AW (Ka x (i+1) H VW b c) λo NK=>?_;rcases NQ.own b z with z| z
    ·exact P z
    ·exact nO (NP.Ao b o NK P O T) z
   cases gf<;>cases v<;>first| exact Vb.elim| skip
   ·exact again (LD q) q
   ·exact⟨_,rfl,λZ E=>E .next n j K q trivial W y QC⟩
   ·exact again (LD q) q
   ·exact⟨_,rfl,λZ E=>E (.ret _) n j K q Vb W y QC⟩
  ·haveI e:i=l.length:=AK 0x14108028084012242100482 [_,_] [] hi w;refine(Kt x).done _ _ _ (by rw[Kh x _ Q9,<-e];exact NM) λh tk R=>?_;refine C9 (Ks t G B8.heap h a DJ hg Ge U (.inl ⟨x,i,NM⟩) R) λGd HR vk=>?_;rw[List.drop_eq_nil_of_le (A3 0x8084012240108482 [_,_] [] w)] at f;exact wpAny_execs_nil ⟨_,rfl,λZ E=>E .next a t G f.2 trivial Gd HR (more h tk Cr R)⟩
 ·rintro q s' ⟨v,rfl,wa⟩;exact wa
end
section
variable{I:Ag}{B:Av}{K:Frag}{scope:Scope}{names:List Str}{r:Nat}
noncomputable def Vd (n:String):Bool:=["enumerate","zip","dict_itemiterator","dict_reverseitemiterator","odict_iterator","itertools.zip_longest","itertools.pairwise"].contains n
def NR{C:Addr}(ho:s.heap.get? C=some o)(hc:o.cls= .type n)(hd:o.data= .fields vs)(hn:Vd n=false)(hQ:Q () s):
  wpAny (model prog w) A (letOwnedTupleGo target (.ref C) v) Q E s:=by
 have main:∀T:Addr,wpAny (model prog w) A (do
   let o<-load C
   match o.cls,o.data with
   | .type n,.fields vs=>
    if Vd n&&vs[0]?==some (rawInt T) then
     rule "for.unpacks-the-owned-tuple"
     updateField C 0 .none
   | _,_=>pure ()) Q E s:=λT=>by
  refine AR (wpAny_load ho ?_);rw[hc,hd];dsimp only;rw[hn,Bool.false_and];rw[A5 (by decide)];exact An hQ
 cases target<;>first| exact An hQ| (cases v<;>first| exact An hQ| exact main _)
noncomputable def NS (d:Data):Bool:=match d with| .seq _ _=>true| _=>false
def NT(h:Heap)(b:Addr):Prop:=∀o v n,h.get? b=some o->o.data≠.seq v n
def NT.of(e:h.get? b=some x)(n:NS x.data=false):NT h b:=λZ v k E d=>CW (n.symm.trans (AO NS ((AO Obj.data (BL (e.symm.trans E))).trans d)))
def J5{C:Addr}(a:NT h C):∀b∈[C],NT h b:=λZ H=>Az.mp H▸a
def Ve{C A0:Addr}(a:NT h C)(c:NT h A0):∀b∈[C,A0],NT h b:=List.forall_mem_cons.2 ⟨a,J5 c⟩
def NU{C a:Addr}(x:h.IsListIter C a i):NT h C:=AW x λZ w=>NT.of w.1 (AO NS w.2.2)
def Vf{C a:Addr}(x:h.IsTupleIter C a i):NT h C:=AW x λZ w=>NT.of w.1 (AO NS w.2.2)
def NV{X:Type}{h:Heap}{W:List Addr}{S:X->Nat->Prop}{M:X->Nat->Value->Prop}(D:(∃x i,S x i)\/∃x i v,M x i v)(a:∀x i,S x i->∀b∈W,NT h b)(c:∀x i v,M x i v->∀b∈W,NT h b):∀b∈W,NT h b:=D.elim (λw=>w.elim λx w=>w.elim λi w=>a x i w) λw=>w.elim λx w=>w.elim λi w=>w.elim λv w=>c x i v w
def NW{h H:Heap}{w:List Addr}(nt:∀b∈w,NT h b)(k:∀b o,b∉w->h.get? b=some o->H.get? b=some o):BM h H:=λa o v n e Z d=>k a o (λq=>nt a q o v n e d) e
def NX{L:Fm}{D:Addr->Addr}{I:AH}{h r:Heap}{J:AE}{w pv:List Addr}(R:AB B D I h)(f:B5 B names L D I J h)(pk:Jw B L D I pv)(S:∀b∈w,b∈pv)(nt:∀b∈w,NT h b)(k:∀b o,b∉w->h.get? b=some o->r.get? b=some o):
  AB B D I r/\B5 B names L D I J r:=by
 haveI g:=NW nt k;refine⟨R.but (P:=λb=>b∈w) (λb o n e=>k b o n e) (λb H=>(pk b (S b H)).1) (λb H=>(pk b (S b H)).2.2.2) λb o l n H e Z d=>nt b H o l n e d,?_⟩;refine f _ λm j A0 N C V=>?_;refine(λZ F=>F m (j.at' λo e=>k _ o (λq=>(pk _ (S _ q)).2.1 rfl) e) A0 N (λy c e=>?_) (λi v e=>?_))
 ·obtain ⟨a,b,d,o,v,X,hd⟩:=C y c e;exact⟨a,b,d,o,v,k _ _ (λq=>(pk _ (S _ q)).2.2.1 y e) X,hd⟩
 ·refine C2 (V i v e) λy E K T U=>?_;refine⟨y,E,K,T.mono g,U.imp id ?_⟩;intro G;refine C2 G λc o W A p=>?_;exact⟨c,o,W,k _ _ (λq=>(pk _ (S _ q)).2.2.1 y W) A,p⟩
def yp{h:Heap}{a:Addr}{x y:Array Value}(p:h.IsList a x)(q:h.IsList a y):x=y:=by
 obtain ⟨o,U,_,n,hd⟩:=p;obtain ⟨O,B,_,N,H⟩:=q;rw[U] at B;cases B;rw[hd] at H;cases H;rfl
def fC(m:A.handled=none){L:Fm}{C a:Addr}(T:a≠C)(l:List AV):Jx B A names L target C (X:=List Value) l (λZ I=>I.A1 a=some l) [C,a] [C] [C] (λU=>U.toArray.size) (λU i v Z=>U.toArray[i]?=some v) (λU i v h=>U.toArray[i]?=some v/\(h.IsListIter C a (i+1)/\h.IsList a U.toArray)) (λU i h=>h.IsListIter C a i/\h.IsList a U.toArray) (λU h=>Af h l U):=λZ K=>K
  (λU=>KTurns.ofWalks (Walks.list m C a T U.toArray) λi v s Q E S A0=>AW S.1 λZ w=>NR w.1 w.2.1 w.2.2 (by decide) A0)
  (λU h v=>BH.trans v.length)
  (λU i h S b H=>by rw[Az.mp H];exact AW S.1 λo w=>⟨o,w.1⟩)
  (λI D h t J R g f pk S k=>by
  haveI nt:∀b∈[C],NT h b:=NV S (λZ Z s=>J5 (NU s.1)) λZ Z Z s=>J5 (NU s.2.1);refine Ac (λr F=>?_) (NX R f pk (λZ H=>H) nt k);exact⟨r,F,λx V=>V.mono (NW nt k)⟩)
  (λb H=>H)
  (λU i v h P V=>by
  have j:i<l.length:=by
   haveI:=(Array.getElem?_eq_some_iff.mp P).1;rw[BH,V.length] at this;exact this
  refine AJ (V.get (Aw j)) λc e G=>?_;cases e.symm.trans (List.getElem?_toArray.symm.trans P);exact⟨_,Aw j,G⟩)
  (λU i I D J h t S V d pv R g=>by
  refine B9 (R.A1 _ _ g) λX n p W=>?_;exact⟨X,⟨S.1.at λo e=>pv C (Dt) o e,IsL.isList p⟩,W⟩)
def fD(m:A.handled=none){L:Fm}{C t:Addr}(T:t≠C)(l:List AV):Jx B A names L target C (X:=List Value) l (λZ Z=>True) [C,t] [C] [C] (λU=>U.toArray.size) (λU i v Z=>U.toArray[i]?=some v) (λU i v h=>U.toArray[i]?=some v/\(h.IsTupleIter C t (i+1)/\h.IsTuple t U.toArray)) (λU i h=>h.IsTupleIter C t i/\h.IsTuple t U.toArray) (λU h=>Af h l U):=λZ G=>G
  (λU=>KTurns.ofWalks (Walks.tuple m C t T U.toArray) λi v s Q E S M=>AW S.1 λZ w=>NR w.1 w.2.1 w.2.2 (by decide) M)
  (λU h v=>BH.trans v.length)
  (λU i h S b H=>by rw[Az.mp H];exact AW S.1 λo w=>⟨o,w.1⟩)
  (λN D h I J R g f pk S k=>by
  haveI nt:∀b∈[C],NT h b:=NV S (λZ Z s=>J5 (Vf s.1)) λZ Z Z s=>J5 (Vf s.2.1);refine Ac (λr F=>?_) (NX R f pk (λZ H=>H) nt k);exact⟨r,F,λx V=>V.mono (NW nt k)⟩)
  (λb H=>H)
  (λU i v h P V=>by
  have j:i<l.length:=by
   have:=(Array.getElem?_eq_some_iff.mp P).1;rw[BH,V.length] at this;exact this
  obtain ⟨c,e,p⟩:=V.get (Aw j);cases e.symm.trans (List.getElem?_toArray.symm.trans P);exact⟨_,Aw j,p⟩)
  (λU i N D J h I S V K pv R g=>by
  refine⟨U,⟨S.1.at λo e=>pv C (Dt) o e,?_⟩,V.mono K⟩;rcases S.2 with⟨o,W,A0,n,hd⟩
  exact⟨o,K _ _ _ _ W A0 hd,A0,n,hd⟩)
def Vg(m:Int)(i:Nat)(v:Value):Prop:=i<m.toNat/\∃t,v= .int (0+(i:Int)*1) t
def Vh(C:Addr)(m:Int)(i:Nat)(h:Heap):Prop:=IsRangeIter h C (0+((i:Nat):Int)*1) ((m.toNat:Int)-((i:Nat):Int)) 1
def fE(C:Addr)(m:Int)(i:Nat)(v:Value)(h:Heap):Prop:=Vg m i v/\Vh C m (i+1) h
def fF(e:A.handled=none){L:Fm}{C:Addr}(m:Int):Jx B A names L target C (X:=Unit) ((List.range m.toNat).map (λ(i:Nat)=>AV.int (i:Int))) (λZ Z=>word m) [C] [C] [C] (λZ=>m.toNat) (λZ i v Z=>Vg m i v) (λZ i v h=>fE C m i v h) (λZ i h=>Vh C m i h) (λZ Z=>True):=λZ I=>I
  (λZ=>KTurns.ofWalks (Walks.range e C 0 1 m.toNat).bound λi v s Q E S A0=>NR (o:=_) (n:="range_iterator") (vs:=_) S rfl rfl (by decide) A0)
  (λZ h v=>by simp)
  (λZ i h S b H=>by rw[Az.mp H];exact⟨_,S⟩)
  (λG D h w J R g f pk S k=>by
  haveI nt:∀b∈[C],NT h b:=NV S (λZ Z s=>J5 (NT.of s rfl)) λZ Z Z s=>J5 (NT.of s.2 rfl);refine Ac (λr F=>?_) (NX R f pk (λZ H=>H) nt k);exact⟨r,F,λx V=>V⟩)
  (λb H=>H)
  (λZ i v h P V=>by
  obtain ⟨j,t,rfl⟩:=P;refine⟨.int i,by simp[j],?_⟩;rw[Int.mul_one,Int.zero_add];exact .int _ _)
  (λZ i G D J h w S V K pv R g=>⟨(),pv C (Dt) _ S,trivial⟩)
def fG(U:List Value)(i:Nat)(v:Value)(h:Heap):Prop:=∃T V,v= .ref T/\(∃t x,U.toArray[i]?=some x/\V= #[.int i t,x])/\h.IsTuple T V
def fH(C it a:Addr)(U:List Value)(i:Nat)(v:Value)(h:Heap):Prop:=∃T V,v= .ref T/\(∃t x,U.toArray[i]?=some x/\V= #[.int i t,x])/\h.IsTuple T V/\((∃x,IsEnumOut h C it ((i:Int)+1) x T)/\h.IsListIter it a (i+1)/\h.IsList a U.toArray/\T≠C/\T≠it)
def fJ(C it a:Addr)(U:List Value)(i:Nat)(h:Heap):Prop:=(∃o,IsEnum h C it i o)/\h.IsListIter it a i/\h.IsList a U.toArray
def fK(M:A.handled=none){L:Fm}{C it a:Addr}(Q:C≠it)(m:a≠C)(K:a≠it)(l:List AV):Jx B A names L (.Tuple elts k p) C (X:=List Value) (l.zipIdx.map λp=>.AA [.int p.2,p.1]) (λZ E=>E.A1 a=some l) [C,it,a] [C,it] [C,it] (λU=>U.toArray.size) fG (fH C it a) (fJ C it a) (λU h=>Af h l U):=λZ O=>O
  (λU=>KTurns.ofWalksU (WalksT.enumerate M C it a Q m K U.toArray).toU)
  (λU h v=>BH.trans (v.length.trans ((Ak _).trans List.length_zipIdx).symm))
  (λU i h S b H=>by
  rcases Co.mp H with rfl| H
  ·refine Ac (λI Z=>?_) S;obtain ⟨_,e⟩:=I;exact⟨_,e⟩
  ·rw[Az.mp H];refine C9 S λZ I Z=>?_;obtain ⟨o,e,_⟩:=I;exact⟨_,e⟩)
  (λE D h G J R g f pk S k=>by
  haveI nt:∀b∈[C,it],NT h b:=NV S (λZ Z s=>Ve (s.1.elim λZ w=>NT.of w rfl) (NU s.2.1)) λZ Z Z s=>s.elim λZ s=>s.elim λZ s=>Ve (s.2.2.2.1.elim λZ w=>NT.of w rfl) (NU s.2.2.2.2.1);refine Ac (λr F=>?_) (NX R f pk (λZ H=>H) nt k);exact⟨r,F,λx V=>V.mono (NW nt k)⟩)
  (λb H=>H)
  (λU i v h P V=>by
  refine C2 P λT vals I c d=>?_;subst I;obtain ⟨t,x,W,rfl⟩:=c;obtain ⟨o,X,A0,n,hd⟩:=d;have j:i<l.length:=by
   haveI:=(Array.getElem?_eq_some_iff.mp W).1;rw[BH,V.length] at this;exact this
  refine AJ (V.get (Aw j)) λcv e N=>?_;cases e.symm.trans (List.getElem?_toArray.symm.trans W);refine⟨.AA [.int i,l[i]],by rw[Bb,List.getElem?_zipIdx,Aw j];exact AO (λx:Nat=>some (AV.AA [.int (x:Int),l[i]])) (Nat.zero_add i),.AA (vs:=[.int i t,x]) ⟨o,X,A0,hd⟩ (.cons (.int _ _) (.cons N .nil))⟩)
  (λU i E D J h G S V kT pv R g=>by
  refine B9 (R.A1 _ _ g) λy n p Y=>?_;refine C9 S λI Io Z=>?_;obtain ⟨old,e⟩:=I;exact⟨y,⟨⟨old,pv C (Dt) _ e⟩,Io.at λo e=>pv it (.tail _ (.head _)) o e,IsL.isList p⟩,Y⟩)
end
section
variable{I:Ag}{B:Av}{K:Frag}{scope:Scope}{names:List Str}{r:Nat}
def AF.tf{h H:Heap}(t:v.tf)(x:AF h v c):AF H v c:=by
 cases x with
 | none=>exact .none
 | bool b=>exact .bool b
 | int i k=>exact .int i k
 | bytes k e=>exact .bytes k e
 | AA a b=>exact t.elim
 | obj a=>exact .obj a
def Af.tf{h H:Heap}(t:∀v∈l,v.tf)(x:Af h l V):Af H l V:=by
 induction l generalizing V with
 | nil=>exact x.NG▸.nil
 | cons v l C=>exact C2 x.Jq λc I e p q=>by rw[e];exact .cons (p.tf (t v (.head _))) (C (λu A=>t u (.tail _ A)) q)
def Cq.tf{h H:Heap}(t:∀p∈l,p.2.tf)(x:Cq h l v):Cq H l v:=by
 induction x with
 | nil=>exact .nil
 | cons a _ C=>exact .cons (a.tf (t _ (.head _))) (C λp P=>t p (.tail _ P))
def AB.QD{W:List Addr}(R:AB B D S h)(t:S.tf)(d:∀b∈W,¬B2 S D b)(N:∀b∈W,B.h0.get? b=none)(k:∀b o,b∉W->h.get? b=some o->F.get? b=some o):AB B D S F:=by
 obtain ⟨t1,t2,t3,t4⟩:=t;have K:∀b o,B2 S D b->h.get? b=some o->F.get? b=some o:=λb o x e=>k b o (λp=>d b p x) e;refine(λZ C=>C (λb o e=>k b o (λp=>by exact nO e (N b p)) (R.Ao b o e)) (λa c e=>?_) R.EF R.Jl (λa l e=>?_) (λa l e=>?_) (λa l e=>?_) (λa l e=>?_) R.Fz R.Iq R.HI R.apart R.HJ R.Ir)
 ·refine F3 (R.inst a c e) λp m I M=>?_;obtain ⟨o,A,E,H,r⟩:=I;obtain ⟨f1,f2⟩:=M;refine⟨K _ _ (Uh e) p,m,⟨o,A,E,K _ _ (N2 e) H,r⟩,λi x q=>?_,f2⟩;haveI:=f1 i x q;cases z:S.A4 a i with
  | none=>rw[z] at this;cases w:m x with
   | none=>trivial
   | some G=>rw[w] at this;exact this.elim
  | some v=>rw[z] at this;cases w:m x with
   | none=>rw[w] at this;exact this.elim
   | some G=>rw[w] at this;exact AF.tf (t1 a i v z) this
 ·refine B9 (R.A1 a l e) λV n p q=>?_;exact⟨V,n,K _ _ (Km e) p,q.tf (t2 a l e)⟩
 ·refine Ac (λp I=>?_) (R.set a l e);obtain ⟨o,A,E,t,H,r⟩:=I;exact⟨p,o,A,E,t,K _ _ (Kn e) H,r⟩
 ·refine AJ (R.AL a l e) λY I q=>?_;obtain ⟨o,A,E,H,r⟩:=I;exact⟨Y,⟨o,A,E,K _ _ (Ko e) H,r⟩,q.tf (t3 a l e)⟩
 ·exact nO e (t4 a)
def B5.QD{L:Fm}{D:Addr->Addr}{I:AH}{J:AE}{h H:Heap}{W pv:List Addr}(f:B5 B names L D I J h)(t:Dy J)(pk:Jw B L D I pv)(S:∀b∈W,b∈pv)(k:∀b o,b∉W->h.get? b=some o->H.get? b=some o):B5 B names L D I J H:=by
 refine f _ λm g N n C U=>?_;refine(λZ F=>F m (g.at' λo e=>k _ o (λq=>(pk _ (S _ q)).2.1 rfl) e) N n (λy c e=>?_) (λi v e=>?_))
 ·obtain ⟨a,b,d,o,v,V,hd⟩:=C y c e;exact⟨a,b,d,o,v,k _ _ (λq=>(pk _ (S _ q)).2.2.1 y e) V,hd⟩
 ·refine C2 (U i v e) λy E K R T=>?_;refine⟨y,E,K,R.tf (t i v e),T.imp id ?_⟩;intro G;refine C2 G λc o w A j=>?_;exact⟨c,o,w,k _ _ (λq=>(pk _ (S _ q)).2.2.1 y w) A,j⟩
def fL(U:List Value×List Value)(i:Nat)(v:Value)(h:Heap):Prop:=∃T V,v= .ref T/\(∃x y,U.1.toArray[i]?=some x/\U.2.toArray[i]?=some y/\V= #[x,y])/\h.IsTuple T V
def fO(z w t C d a b:Addr)(U:List Value×List Value)(i:Nat)(v:Value)(h:Heap):Prop:=∃T V,v= .ref T/\(∃x y,U.1.toArray[i]?=some x/\U.2.toArray[i]?=some y/\V= #[x,y])/\h.IsTuple T V/\
  (IsZip h z w t (rawInt T)/\IsPair h w (.ref C) (.ref d)/\(∃a b,IsPair h t a b)/\h.IsListIter C a (i+1)/\h.IsListIter d b (i+1)/\h.IsList a U.1.toArray/\h.IsList b U.2.toArray/\T≠z/\T≠t/\T≠C/\T≠d)
def fP(z T t C d a b:Addr)(U:List Value×List Value)(i:Nat)(h:Heap):Prop:=IsZip h z T t .none/\IsPair h T (.ref C) (.ref d)/\(∃a b,IsPair h t a b)/\h.IsListIter C a i/\h.IsListIter d b i/\h.IsList a U.1.toArray/\h.IsList b U.2.toArray
noncomputable def Vi (U:List Value×List Value):Nat:=min U.1.toArray.size U.2.toArray.size
def fQ(l m:List AV)(U:List Value×List Value)(h:Heap):Prop:=Af h l U.1/\Af h m U.2
def LI{A:Type}{p:A->Prop}{a:A}{l:List A}(h:p a)(k:∀x∈l,p x):∀x∈a::l,p x:=List.forall_mem_cons.2 ⟨h,k⟩
def fR{A:Type}{p:A->Prop}:∀x∈([]:List A),p x:=λ_ h=>(List.not_mem_nil h).elim
def fS(X:A.handled=none){L:Fm}{z t T C d a b:Addr}(P:ZipApart z t T C d a b)(l m:List AV)(tl:∀v∈l,v.tf)(tm:∀v∈m,v.tf):
  Jx B A names L (.Tuple elts k p) z (X:=List Value×List Value) ((l.zip m).map λp=>.AA [p.1,p.2]) (λJ S=>S.A1 a=some l/\S.A1 b=some m/\Dy J/\S.tf) [z,t,T,C,d,a,b] [z,T,C,d] [z,t,T,C,d] Vi fL (fO z t T C d a b) (fP z t T C d a b) (fQ l m):=λZ zK=>zK
  (λU=>KTurns.ofWalksU (WalksT.zip2 X z t T C d a b P U.1.toArray U.2.toArray).toU)
  (λU h v=>by unfold Vi;simp[v.1.length,v.2.length])
  (λU i h E c H=>by
  refine UO E λj r I Q n Z=>?_;obtain ⟨A0,K,F⟩:=I;refine(?_:∀c∈[z,t,T,C,d],∃o,h.get? c=some o) c H;exact LI ⟨_,j⟩ (LI ⟨_,r⟩ (LI ⟨_,F⟩ (LI (AW Q λo w=>⟨o,w.1⟩) (LI (AW n λo w=>⟨o,w.1⟩) fR)))))
  (λS D h N J R g f pk E k=>by
  have G:∀c∈[z,T,C,d],c∈[z,t,T,C,d]:=λc H=>(List.Sublist.cons_cons _ (.cons _ (.refl _))).subset H;exact⟨R.QD g.2.2.2 (λc H=>(pk c (G c H)).1) (λc H=>(pk c (G c H)).2.2.2) k,f.QD g.2.2.1 pk G k,λx V=>⟨V.1.tf tl,V.2.tf tm⟩⟩)
  (λc H=>(List.Sublist.cons_cons _ (.cons _ (.refl _))).subset H)
  (λU i v h hp V=>by
  refine C2 hp λTa vals I G0 fT=>?_;subst I;obtain ⟨x,y,W,O,rfl⟩:=G0;obtain ⟨o,Y,H,nc,hd⟩:=fT;have Q:i<l.length:=by
   have:=(Array.getElem?_eq_some_iff.mp W).1;rw[BH,V.1.length] at this;exact this
  have n:i<m.length:=by
   haveI:=(Array.getElem?_eq_some_iff.mp O).1;rw[BH,V.2.length] at this;exact this
  refine AJ (V.1.get (Aw Q)) λcv e hv=>?_;refine AJ (V.2.get (Aw n)) λcu M hu=>?_;cases e.symm.trans (List.getElem?_toArray.symm.trans W);cases M.symm.trans (List.getElem?_toArray.symm.trans O);refine⟨.AA [l[i],m[i]],?_,.AA (vs:=[x,y]) ⟨o,Y,H,hd⟩ (.cons hv (.cons hu .nil))⟩;rw[Bb,List.getElem?_zip_eq_some (z:=(l[i],m[i])).mpr ⟨Aw Q,Aw n⟩];rfl)
  (λU i S D J h N E V kT pv R g=>by
  refine B9 (R.A1 _ _ g.1) λfU nc p rr=>?_;refine B9 (R.A1 _ _ g.2.1) λHy n' p' fV=>?_;refine UO E λj r I Q n Z=>?_;obtain ⟨A0,K,F⟩:=I;exact⟨(fU,Hy),⟨pv z (Dt) _ j,pv t (.tail _ (.head _)) _ r,⟨A0,K,pv T (.tail _ (.tail _ (.head _))) _ F⟩,Q.at λo e=>pv C (.tail _ (.tail _ (.tail _ (.head _)))) o e,n.at λo e=>pv d (.tail _ (.tail _ (.tail _ (.tail _ (.head _))))) o e,IsL.isList p,IsL.isList p'⟩,rr,fV⟩)
def yq(h:cameBackBy (model B.prog B.w) A E BG e s):cameBackBy (model B.prog B.w) A E BG e s:=h
def LJ{L:Fm}(R:AB B D S h)(f:B5 B names L D S J h){pv:List Addr}(new:∀b∈pv,h.get? b=none):Jw B L D S pv:=λb c=>by
 have H:=new b c;refine f _ λm Y N n C Z=>?_;obtain ⟨o,E,e,U,_⟩:=Y;refine⟨R.free H,λq=>?_,λy q=>?_,R.GV H⟩
 ·rw[<-q,H] at U;cases U
 ·rcases C y b q with⟨_,_,_,o,v,U,_⟩
  exact nO U H
def fW{v:List Nat}{T C:Expr}{M:ME}{m:List MS}{b:List Stmt}{n:Pos}(N:HQ B scope names v T)(g:AD I B scope names r M C)(H:DK I B scope names r m b)(y:∀E x,foldedSetIterable C E x=pure x):
  CL I B scope names r (.forS .list v M m) (.For T C b [] n):=λE L A Qa J σ D s U t h R f=>by
 refine wpAny_For (B4 g U t h R f λcv S va c d w o X W=>?_) (y E);refine Ah w λp P h=>?_;haveI F:=f.ext R X;refine AJ (CP.1 P) λa Y P=>?_;refine AJ (BY.1 P) λl O K=>?_;subst K;rcases AV.G1 Y with rfl
 rcases W.F6 with rfl
 refine B9 (o.list O) λQ nc p V=>?_;haveI j:a<S.heap.objs.size:=Cm p;refine wpAny_pyIter_list (IsL.isList p) ?_;haveI G:∀b∈[S.heap.objs.size],S.heap.get? b=none:=λb H=>by rw[Az.mp H];exact tooBig _
 haveI A0:=Ext.D1 (σ:=c) (D:=d) (s:=S) {cls:=.type "list_iterator",data:=.fields #[.ref a,.int 0 0]};refine codeAny_mono (LG (s:={S with heap:=_}) (C:=S.heap.objs.size) (fC (B:=B) (names:=names) (L:=L) (A:=A) (target:=T) t.handled (Cc j) l) N H U t F G A0.toS h (o.D1 _) (F.ext o A0) (LJ o F G) (x:=Q)
  ⟨⟨_,ED _ rfl,rfl,rfl⟩,IsL.isList (IsL.push p _)⟩ (V.mono (BM.of λZ Z q=>CZ _ q))) λq s' w=>?_
 cases q with
 | ok fl=>exact BO.of f R X w
 | error e=>exact w
def fX{A0:List Nat}{T C:Expr}{M:ME}{m:List MS}{b:List Stmt}{O:Pos}(N:HQ B scope names A0 T)(g:AD I B scope names r M C)(H:DK I B scope names r m b)(y:∀E x,foldedSetIterable C E x=pure x):
  CL I B scope names r (.forS .AA A0 M m) (.For T C b [] O):=λE L A Q J σ D s U v h R f=>by
 refine wpAny_For (B4 g U v h R f λcv S va a d w o X W=>?_) (y E);refine Ah w λp P h=>?_;haveI F:=f.ext R X;refine AJ (BY.1 P) λl c Y=>?_;subst Y;rcases AV.GZ c with rfl
 cases W with
 | @AA _ t us n p V=>
  haveI hT:S.heap.IsTuple t us.toArray:=p.AA;haveI j:t<S.heap.objs.size:=AW p λZ w=>Cm w.1;refine wpAny_pyIter_tuple hT ?_;haveI G:∀b∈[S.heap.objs.size],S.heap.get? b=none:=λb H=>by rw[Az.mp H];exact tooBig _
  haveI K:=Ext.D1 (σ:=a) (D:=d) (s:=S) {cls:=.type "tuple_iterator",data:=.fields #[.ref t,.int 0 0]};refine codeAny_mono (LG (s:={S with heap:=_}) (C:=S.heap.objs.size) (fD (B:=B) (names:=names) (L:=L) (A:=A) (target:=T) v.handled (Cc j) l) N H U v F G K.toS h (o.D1 _) (F.ext o K) (LJ o F G) (x:=us)
   ⟨⟨_,ED _ rfl,rfl,rfl⟩,hT.push _⟩ (V.mono (BM.of λZ Z q=>CZ _ q))) λq s' w=>?_
  cases q with
  | ok fl=>exact BO.of f R X w
  | error e=>exact w
def fY(G:Bw B){N:List Nat}{j a:Expr}{m:ME}{g:List MS}{b:List Stmt}{x:Str}{W O pos:Pos}(hl:scope.names.lookup x=some .globalImplicit)(hd:(x==("__debug__":Str))=false)(hg:G.mg x=none)(Gf:G.mb x=some (.type "range"))
  (ha:HQ B scope names N j) (he:AD I B scope names r m a) (V:∀E,starEach [a] E=(false,eval a E)::starEach [] E) (c:DK I B scope names r g b) (hs:∀E x,foldedSetIterable (.Call (.Name "range" W) [a] [] O) E x=pure x) (hx:x="range"):
  CL I B scope names r (.forS .range N m g) (.For j (.Call (.Name x W) [a] [] O) b [] pos):=λE L A Q J D Dc s H A0 h R f=>by
 subst hx;haveI h':B3 I m (λv D=>pO (HM .range v D) λp=>forA p.2 N (λK la D=>AP I g K la D) Q p.1 J D) J D:=h;refine wpAny_For ?_ (hs E);refine AR (GS (by rw[H.sc];exact H.kind) (by unfold Env.kindOf;rw[H.sc];exact hl) (Calls.loadGlobal_builtin (by rw[H.globals];exact G.g.keeps R.Ao) hg (by rw[H.builtins];exact G.b.keeps R.Ao) Gf ?_) hd);refine PyProof.Rows.callWith_type1 ?_ (V E) rfl;rw[V];refine Calls.spliced_cons (B4 he H A0 h' R f λcv S v C d w o Y Ce=>Calls.spliced_nil ?_);refine Ah w λp hp h=>?_;haveI U:=f.ext R Y;refine AJ (BY.1 hp) λn en Br=>?_;subst Br;rcases AV.F5 en with rfl
 rcases Ce.DU with⟨t,rfl⟩
 haveI M:word n:=LD h;unfold word at M;refine call_range_1 ?_;haveI X:Ext C d S C d {S with heap:=S.heap.push {cls:=.type "range",data:=.fields #[.int 0 S.toks,.int n t,.int 1 (S.toks+1)]},toks:=S.toks+1+1}:=(λZ zK=>zK (λZ Z q Z=>CZ _ q) (λZ x=>.inl x) rfl rfl);haveI l:AB B d C (S.heap.push {cls:=.type "range",data:=.fields #[.int 0 S.toks,.int n t,.int 1 (S.toks+1)]}):=o.D1 _;haveI F:=U.ext o X;refine wpAny_pyIter_range (IsRange.new _ _ _ _ _ _ _) (small_one (by decide) (by decide) (A3 0x2c02210000000000000001a37308000000000000000d1804b0088400000000000000068c40 [] [_] M) (A3 0x18400000000000000068c027308000000000000000d1804b0088400000000000000068c40 [] [_] M)) ?_;generalize fZ:({S with heap:=S.heap.push {cls:=.type "range",data:=.fields #[.int 0 S.toks,.int n t,.int 1 (S.toks+1)]},toks:=S.toks+1+1}:Shared)=Bl at X F⊢;haveI T:AB B d C Bl.heap:=by rw[<-fZ];exact l
 haveI P:∀b∈[Bl.heap.objs.size],Bl.heap.get? b=none:=λb c=>by rw[Az.mp c];exact tooBig _
 haveI y:=Ext.D1 (σ:=C) (D:=d) (s:=Bl) {cls:=.type "range_iterator",data:=.fields #[rawInt 0,rawInt (Builtin.Range.rangeSize 0 n 1),rawInt 1]};refine codeAny_mono (LG (s:={Bl with heap:=_}) (C:=Bl.heap.objs.size) (fF (B:=B) (names:=names) (L:=L) (A:=A) (target:=j) A0.handled n) ha c H A0 F P y.toS h (T.D1 _) (F.ext T y) (LJ T F P) (x:=())
  ?_ trivial) λq s' w=>?_
 ·refine(?_:Heap.get? _ _=_);haveI e:Builtin.Range.rangeSize 0 n 1=(n.toNat:Int):=by rw[rangeSize_one];split<;>(first| lia| omega)
  refine(e).symm▸?_;refine(ED _ rfl).trans ?_;simp[rawInt]
 ·cases q with
  | ok fl=>exact BO.of f R Y (BO.trans U F X.toS w)
  | error e=>exact w
end
section
variable{I:Ag}{B:Av}{K:Frag}{scope:Scope}{names:List Str}{r:Nat}
def fb(G:Bw B){N:List Nat}{A0:List Expr}{k:Nat}{p:Pos}{a:Expr}{m:ME}{j:List MS}{b:List Stmt}{x:Str}{X n pos:Pos}(hl:scope.names.lookup x=some .globalImplicit)(hd:(x==("__debug__":Str))=false)(hg:G.mg x=none)(Gf:G.mb x=some (.type "enumerate"))
  (ha:HQ B scope names N (.Tuple A0 k p)) (g:AD I B scope names r m a) (V:∀E,starEach [a] E=(false,eval a E)::starEach [] E) (c:DK I B scope names r j b) (hs:∀E y,foldedSetIterable (.Call (.Name x X) [a] [] n) E y=pure y):
  CL I B scope names r (.forS .enum N m j) (.For (.Tuple A0 k p) (.Call (.Name x X) [a] [] n) b [] pos):=λE L A Qa J D Dc s H M h R f=>by
 haveI t:B3 I m (λv D=>pO (HM .enum v D) λp=>forA p.2 N (λK l D=>AP I j K l D) Qa p.1 J D) J D:=h;refine wpAny_For ?_ (hs E);refine AR (GS (by rw[H.sc];exact H.kind) (by unfold Env.kindOf;rw[H.sc];exact hl) (Calls.loadGlobal_builtin (by rw[H.globals];exact G.g.keeps R.Ao) hg (by rw[H.builtins];exact G.b.keeps R.Ao) Gf ?_) hd);refine PyProof.Rows.callWith_type1 ?_ (V E) rfl;rw[V];refine Calls.spliced_cons (B4 g H M t R f λcv S v O C w F W Ce=>Calls.spliced_nil ?_);refine Ah w λp P h=>?_;haveI U:=f.ext R W;refine AJ (CP.1 P) λo eo P=>?_;refine AJ (BY.1 P) λl Vj Br=>?_;subst Br;rcases AV.G1 eo with rfl
 rcases Ce.F6 with rfl
 refine B9 (F.list Vj) λus nc pl rr=>?_;haveI Q:o<S.heap.objs.size:=Cm pl;refine call_enumerate_list (IsL.isList pl) λt g fc hz d=>?_;haveI Y:Ext O C S O C {S with heap:=t}:=(λZ zK=>zK (λb o e Z=>d b o e) (λZ x=>.inl x) rfl rfl);haveI Gd:AB B C O t:=F.grow d;haveI HR:=U.ext F Y;refine wpAny_pyIter_enum (s:={S with heap:=t}) g ?_;haveI T:∀b∈[S.heap.objs.size+1,S.heap.objs.size],S.heap.get? b=none:=λb c=>by
  rcases Co.mp c with rfl| c
  ·exact I1 (Nat.le_succ _)
  ·rw[Az.mp c];exact tooBig _
 refine codeAny_mono (LG (s:={S with heap:=t}) (C:=S.heap.objs.size+1) (fK (B:=B) (names:=names) (L:=L) (A:=A) (elts:=A0) (k:=k) (p:=p) (it:=S.heap.objs.size) M.handled (Nat.ne_of_gt (GQ _)) (Cc (Nat.lt_succ_of_lt Q)) (Cc Q) l) ha c H M U T Y.toS h Gd HR (LJ F U T) (x:=us)
  ⟨⟨_,g⟩,fc,?_⟩ (rr.mono (BM.of d))) λq s' w=>?_
 ·exact⟨_,d _ _ pl,rfl,_,rfl⟩
 ·cases q with
  | ok fl=>exact BO.of f R W w
  | error e=>exact w
def ff(h:Uw v=some p):v= .AA [.obj p.1,.obj p.2]:=by
 refine AJ (CP.1 h) λl H h=>?_;rcases l with _| ⟨a,_| ⟨b,_| ⟨c,l⟩⟩⟩<;>first| exact nO h rfl| skip
 ·
  refine AJ (CP.1 h) λi m h=>?_;refine AJ (BY.1 h) λj K A=>?_;subst A;rw[AV.GZ H,AV.G1 m,AV.G1 K]
def fg(h:Nat.beq a b=false):n+a≠n+b:=λw=>Nat.ne_of_beq_eq_false h (Nat.add_left_cancel w)
def fh(G:Bw B){N:List Nat}{A0:List Expr}{k:Nat}{p:Pos}{a g:Expr}{Q:Cd}{j:List MS}{b:List Stmt}{x:Str}{Jt c pos:Pos}(hl:scope.names.lookup x=some .globalImplicit)(hd:(x==("__debug__":Str))=false)(F:G.mg x=none)(Gf:G.mb x=some (.type "zip"))
  (ha:HQ B scope names N (.Tuple A0 k p)) (n:EJ I B scope names r Q [a,g]) (d:DK I B scope names r j b) (hs:∀m ya,foldedSetIterable (.Call (.Name x Jt) [a,g] [] c) m ya=pure ya):
  CL I B scope names r (.forS .zip N (.AA Q) j) (.For (.Tuple A0 k p) (.Call (.Name x Jt) [a,g] [] c) b [] pos):=λm L A Qa J E Dc s H M h R f=>by
 haveI t:Jo I Q (λV E=>V.length<=100/\pO (HM .zip (.AA V) E) λp=>forA p.2 N (λKa l E=>AP I j Ka l E) Qa p.1 J E) J E:=h;refine wpAny_For ?_ (hs m);refine AR (GS (by rw[H.sc];exact H.kind) (by unfold Env.kindOf;rw[H.sc];exact hl) (Calls.loadGlobal_builtin (by rw[H.globals];exact G.g.keeps R.Ao) F (by rw[H.builtins];exact G.b.keeps R.Ao) Gf ?_) hd);refine Ac (λe1 e2=>?_) (n.2.1 a [g] rfl m);refine PyProof.Rows.callWith_type1 (B6 (n.2.2 m L A _ J E Dc s c H M t R f) (λF7 S w=>?_) λZ Z x=>x) e1 (e2 c);refine HF w λV T C D v Cr Ce=>?_;refine Ac (λhlen D=>?_) D;refine Ah D λp P h=>?_;clear hlen;haveI U:=f.ext R Cr;refine AJ (CP.1 P) λq eq P=>?_;refine AJ (CP.1 P) λl W P=>?_;refine AJ (BY.1 P) λma X D=>?_;subst D;rcases q with⟨o,O⟩
 rcases AV.AA.inj (ff eq) with rfl
 refine C2 (VO Ce) λc1 c2 D w1 w2=>?_;subst D;rcases w1.F6 with rfl
 rcases w2.F6 with rfl
 refine B9 (v.list W) λus nc pl rr=>?_;refine B9 (v.list X) λfj n2 I2 fk=>?_;haveI Gg:o<S.heap.objs.size:=Cm pl;haveI fq:O<S.heap.objs.size:=Cm I2;haveI Vj: @LT.lt Nat _ o S.heap.objs.size:=Gg;haveI yr: @LT.lt Nat _ O S.heap.objs.size:=fq;haveI F:=LD h;refine call_zip_2 (IsL.isList pl) (IsL.isList I2) λt y ft fy fz g0 Vl K=>?_;haveI FW:Ext T C S T C {S with heap:=t}:=(λZ zK=>zK (λb o e Z=>K b o e) (λZ x=>.inl x) rfl rfl);haveI Gd:AB B C T t:=v.grow K;haveI HR:=U.ext v FW;refine wpAny_pyIter_zip (s:={S with heap:=t}) y ?_;haveI ap:ZipApart (S.heap.objs.size+4) (S.heap.objs.size+2) (S.heap.objs.size+3) S.heap.objs.size (S.heap.objs.size+1) o O:=by
  constructor<;>first| exact fg rfl| exact Cc (Fv (by assumption) (Nat.le_add_right _ _))| exact Nat.ne_of_gt (Fv (by assumption) (Nat.le_add_right _ _))| exact Nat.ne_of_gt (by assumption)| exact Cc (by assumption)| exact Nat.ne_of_gt (by(first| lia| omega))| exact Cc (by(first| lia| omega))
 haveI Y:∀b∈[S.heap.objs.size+4,S.heap.objs.size+2,S.heap.objs.size+3,S.heap.objs.size,S.heap.objs.size+1],S.heap.get? b=none:=λb d=>by
  simp only[List.mem_cons,List.not_mem_nil,or_false] at d;exact I1 (by rcases d with rfl| rfl| rfl| rfl| rfl<;>first| exact Nat.le_refl _| exact Nat.le_add_right _ _)
 refine codeAny_mono (LG (s:={S with heap:=t}) (C:=S.heap.objs.size+4) (fS (B:=B) (names:=names) (L:=L) (A:=A) (elts:=A0) (k:=k) (p:=p) M.handled ap l ma (F.2.2.2.2.1 o l W) (F.2.2.2.2.1 O ma X)) ha d H M U Y FW.toS h Gd HR (LJ v U Y) (x:=(us,fj))
  ⟨y,ft,⟨_,_,fy⟩,fz,g0,⟨_,K _ _ pl,rfl,_,rfl⟩,⟨_,K _ _ I2,rfl,_,rfl⟩⟩ ⟨rr.mono (BM.of K),fk.mono (BM.of K)⟩) λq s' w=>?_
 cases q with
 | ok fl=>exact BO.of f R Cr w
 | error e=>exact w
end
def Bn.deeper(h:Bn (k+1) A):Bn k (A.deeper E):=
 (λZ B=>B (by refine(?_:A.depth+1+6*k+10<_);haveI:=h.depth;exact A3 0x1220a140418c10a020005220a140418c808021004c3 [_,_,_] [] this) (by refine(?_:A.units+3+20*k+60<_);haveI:=h.units;exact A3 0x1220a03c10d143042818001488280f043450c808021004c3 [_,_,_] [] this) h.handled (let ⟨l,e⟩:=h.frames;⟨_,Around.frames_deeper e⟩))
def Bn.make(h:Bn (k+1) A):Bn k (A.under (.builtin "type.__call__" ⟨.ref c::r,[]⟩)):=by
 haveI H:(Code.builtin "type.__call__" ⟨.ref c::r,[]⟩).frames=0:=rfl;haveI K:(Code.builtin "type.__call__" ⟨.ref c::r,[]⟩).weight=1:=by
  haveI o:(Code.builtin "type.__call__" ⟨.ref c::r,[]⟩).isGuard=false:=by refine(?_:guardIds.contains "type.__call__"=false);decide+kernel
  unfold Code.weight;rw[H,o];rfl
 haveI B:(Code.builtin "type.__call__" ⟨.ref c::r,[]⟩).cUnits=1:=by refine(?_:1+3*_=1);rw[H]
 haveI f:(Code.builtin "type.__call__" ⟨.ref c::r,[]⟩).envs=[]:=rfl;refine(λZ I=>I ?_ ?_ h.handled ?_)
 ·refine(?_:A.depth+(Code.builtin "type.__call__" ⟨.ref c::r,[]⟩).weight+6*k+10<_);rw[K];haveI:=h.depth;exact A3 0x1220a140418c10a020005220a140418c808021004c3 [_,_,_] [] this
 ·refine(?_:A.units+(Code.builtin "type.__call__" ⟨.ref c::r,[]⟩).cUnits+20*k+60<_);rw[B];haveI:=h.units;exact A3 0x1220a03c10d143042808001488280f043450c808021004c3 [_,_,_] [] this
 ·rcases h.frames with⟨l,e⟩
  refine⟨l,?_⟩;refine(?_:pushEnvs (Code.builtin "type.__call__" ⟨.ref c::r,[]⟩).envs A.frames=some l);rw[f];exact e
def HS(B:Av)(K:Frag)(f:FuncData)(p:List Str)(F:List AV->Option (List AV)):Prop:=
 ∀(s:Shared) (A a:List AV) (v:List Value),K.In s.heap->Af s.heap A v->F A=some a->∃V,Af s.heap a V/\p.length=a.length/\BindsTo s f ⟨v,[]⟩ (p.zip V)
section
variable{I:Ag}{B:Av}{K:Frag}
def g6{P:List Str}{V:List Value}(H:P.Nodup)(M:P.length=V.length){i:Nat}{x:Str}(W:P[i]?=some x):(P.zip V).reverse.lookup x=V[i]?:=by
 have F:i<P.length:=(D6.mp W).1;haveI c:(x,V[i]'(M▸F))∈(P.zip V).reverse:=by
  rw[List.mem_reverse];haveI:(P.zip V)[i]?=some (x,V[i]'(M▸F)):=List.getElem?_zip_eq_some.mpr ⟨W,Aw _⟩;exact Bj this
 haveI K:∀(l:List (Str×Value)),(l.map (·.1)).Nodup->∀{y:Str} {v:Value},(y,v)∈l->l.lookup y=some v:=by
  intro l;induction l with
  | nil=>intro _ y v h;cases h
  | cons p l C=>
   intro H y v h;rw[List.map_cons,List.nodup_cons] at H;rw[Kd];rcases Co.mp h with rfl| h
   ·simp
   ·haveI:y≠p.1:=λe=>H.1 (by rw[<-e];exact DT.mpr ⟨_,h,rfl⟩);refine(beq_eq_false_iff_ne.mpr this:(y==p.1)=false).symm▸?_;exact C H.2 h
 haveI Q:((P.zip V).reverse.map (·.1)).Nodup:=by
  rw[List.map_reverse,List.map_fst_zip (A3 0x404200a82100482 [_,_] [] M)];exact(List.pairwise_reverse.mpr (H.imp λh=>C1 h))
 rw[K _ Q c,Aw]
def Vm{N p:List Str}{n:Nat}(w:N.take p.length=p)(A:N.Nodup){a:List AV}{V:List Value}{D:Addr->Addr}{I:AH}{s:Shared}{H:Heap}(R:AB B D I s.heap)(hlen:p.length=a.length)(v:Af s.heap a V)
  (d:H.Ns s.heap.objs.size λx=>(p.zip V).reverse.lookup x) (k:∀b o,s.heap.get? b=some o->H.get? b=some o):B5 B N ⟨s.heap.objs.size,none⟩ D I (a.map some++List.replicate n none) H:=by
 haveI S:=tooBig s.heap;refine(λZ G=>G _ d (R.free S) (R.GV S) (λx c e=>(by cases e)) (λi u e=>?_));have h:i<a.length:=by
  rw[Ky] at e;refine Nat.lt_of_not_le λf=>?_;rw[List.getElem?_append_right (by simpa using f)] at e;rw[Ak] at e;rw[List.getElem?_replicate] at e;split at e<;>simp at e
 haveI F:a[i]?=some u:=by
  rw[Ky] at e;rw[HB (by simpa using h),Bb,Aw h] at e;simp at e;rw[Aw h,e]
 refine AJ (v.get F) λE l t=>?_;have P:i<p.length:=by exact AK 0x908401508210a441004c3 [_,_,_] [] hlen h
 haveI W:p[i]?=some p[i]:=Aw P;refine⟨p[i],E,?_,t.mono (BM.of k),.inl ⟨λc e=>(by cases e),?_⟩⟩
 ·(refine(W)▸?_;try (with_reducible rfl))
  conv=>rhs;rw[<-w]
  (refine(List.getElem?_take_of_lt P).symm▸?_;try (with_reducible rfl))
 ·haveI L:p.Nodup:=by rw[<-w];exact A.sublist (List.take_sublist _ _)
  rw[g6 L (by rw[hlen,v.length]) W,l]
def Vn{N:List Str}{D:Addr->Addr}{E:AH}{s:Shared}{h₀:Heap}{tk:Nat}{Q:PE}(k:∀b o,s.heap.get? b=some o->h₀.get? b=some o){f:Flow}{s':Shared}
  (h:BO B N ⟨s.heap.objs.size,none⟩ D E {s with heap:=h₀,toks:=tk} (BB Q) f s'):AS B D E s Q (match f with| .ret v=>v| _=>.none) s':=by
 refine h _ λg l S d q H R F x=>?_;have e:Ext E D s S d s':=by
  refine(λZ I=>I (λb o e n=>x.Ao b o (k b o e) n (λz=>?_) (λy z=>by cases z)) (λb z=>(x.own b z).imp id λw=>?_) x.gens x.os)
  ·haveI:b=s.heap.objs.size:=z;rw[this,tooBig] at e;cases e
  ·cases e:s.heap.get? b with
   | none=>rfl
   | some o=>haveI w:h₀.get? b=none:=w;exact nO (k b o e) w
 cases g<;>cases f<;>first| exact H.elim| skip
 ·exact(λZ I=>I _ S d q R e .none)
 ·exact(λZ I=>I _ S d q R e .none)
 ·exact(λZ I=>I _ S d q R e .none)
 ·exact(λZ I=>I _ S d q R e H)
set_option tactic.hygienic true in
def mem_of_lookup{l:List (Str×NameKind)}{x:Str}{k:NameKind}(e:l.lookup x=some k):(x,k)∈l:=by
 induction l with
 | nil=>cases e
 | cons p l C=>
  rw[Kd] at e;split at e
  ·rename_i h;cases e;rw[D7] at h;subst h;exact .head _
  ·exact .tail _ (C e)
def g7(F:Facts B K){k m:Nat}{oc:Value}{od:Option Addr}{f:FuncData}{I3:Array (Option Value)}{r:List Stmt}{names ps:List Str}{n:Nat}{ms:List MS}{fill:List AV->Option (List AV)}
  (V:K.lookup m=some ⟨oc,od,.func f,I3⟩) (d:f.body= .stmts r) (g:codeIn K f.code f.qualname=true) (p:f.globals=mainGlobals) (G:f.builtins=builtinsNs)
  (H:∀x∈f.scope.names,x.2≠.cell) (L:∀x∈ps,f.scope.names.lookup x=some .local) (M:names.take ps.length=ps) (N:names.Nodup) (C:HS B K f ps fill)
  (c:DK I B f.scope names k ms r) (O:∀a Q S,I.spec k a Q S->∃A,fill a=some A/\Dz I n ms A Q S)
  (l:f.scope.isCoroutine=false) (A0:f.scope.isGenerator=false) (T:f.scope.kind= .function):DB I B k (.ref m):=λAa a vals Q S D s t y R va=>by
 refine AJ (O a Q S y) λA j P=>?_;have X:=R.In F;refine BX (C s a A vals X va j) λv v' hlen U=>?_;refine codeAny_call_def (fd:=f) (body:=r) (binds:=ps.zip v) (by haveI:=t.depth;exact A3 0x2421005210a140418c808041004c3 [_,_,_] [] this) (X _ _ V) rfl (F.lim.keeps R.Ao) (codeRec_of X g) d U H (λx W=>L _ (List.of_mem_zip W).1) (λY ns h=>?_) l A0 T;haveI E:Bv (callEnv f s.heap.objs.size m) f.scope ⟨s.heap.objs.size,none⟩:=(λZ zK=>zK rfl T rfl p G rfl (λx cb e=>(by cases e)) (λx e=>Ad rfl (H _ (mem_of_lookup e))));haveI w:=Vm (n:=n) M N R hlen v' ns h;refine B6 (c (callEnv f s.heap.objs.size m) _ _ _ _ S D {s with heap:=Y,toks:=s.toks+(ps.zip v).length} E t.deeper P (R.grow h) w) (λo s' wa=>?_) λZ Z x=>x.elim;haveI:=Vn h wa;cases o<;>exact this
def g8(F:Facts B K){k C c m:Nat}(U:makesIn K c=true)(O:findIn K (.ref c) "__init__"=some (some (.ref m)))(M:typeIn K (.ref m)=some (.type "function"))(A0:c∈HH)(Y:C<k)(V:DB I B C (.ref m))
  (HT:∀f Q S,I.spec k f Q S->∀a,S.fresh a->I.spec C (.obj a::f) (λv S=>v= .none/\Q (.obj a) S) (S.uN a c)):DB I B k (.ref c):=λA f r Q S D s P hs R v=>by
 haveI X:=R.In F;rcases s with⟨h,g,d,t,os⟩
 refine make_core (makes_of X U) (looks_findIn X O) (λself=>bind_fn X self M) (.inl rfl) ?_;haveI H:=tooBig h;haveI R:AB B D S h:=R;haveI v:Af h f r:=v;haveI Vl:(h.push emptyDict).objs.size=h.objs.size+1:=Heap.size_push _ _;haveI j:∀b o,h.get? b=some o->((h.push emptyDict).push (instObj c h.objs.size)).get? b=some o:=λb o e=>CZ _ (CZ _ e);haveI p1:((h.push emptyDict).push (instObj c h.objs.size)).get? (h.objs.size+1)=some (instObj c h.objs.size):=by rw[<-Vl];exact ED _ rfl
 haveI p2:((h.push emptyDict).push (instObj c h.objs.size)).Ns1 h.objs.size λZ=>none:=by
  refine⟨emptyDict,#[],0,CZ _ (ED _ rfl),rfl,?_,?_,?_⟩
  ·intro e L;simp at L
  ·exact .nil
  ·intro x;rfl
 haveI W:h.objs.size≠h.objs.size+1:=Cc (GQ _);haveI n:=R.uN A0 (I1 (Nat.le_succ _)) H W j p1 p2;haveI N:=Ep (R.free (I1 (Nat.le_succ _)));haveI LK:=HT f Q S hs (h.objs.size+1) N;haveI y:Bn k (A.under (.builtin "type.__call__" ⟨.ref c::r,[]⟩)):=P.make;refine codeAny_mono (V (A.under (.builtin "type.__call__" ⟨.ref c::r,[]⟩)) (.obj (h.objs.size+1)::f) (.ref (h.objs.size+1)::r) _ _ _ ⟨(h.push emptyDict).push (instObj c h.objs.size),g,d,t,os⟩ (y.le Y) LK n (.cons (.obj _) (v.mono (BM.of j)))) λq s' w=>?_;haveI T:Ext S D ⟨h,g,d,t,os⟩ (S.uN (h.objs.size+1) c) (λb=>if b=h.objs.size+1 then h.objs.size else D b) ⟨(h.push emptyDict).push (instObj c h.objs.size),g,d,t,os⟩:=by
  refine(λZ E=>E (λb o e Z=>j b o e) (λb x=>?_) rfl rfl);rcases bT x with x| rfl| rfl
  ·exact .inl x
  ·exact .inr (I1 (Nat.le_succ _))
  ·exact .inr H
 cases q with
 | error e=>exact w.elim
 | ok G=>
  cases G with
  | ret cv=>
   refine w _ λu Aq l y1 p x hv=>?_;rcases y1 with⟨rfl,q⟩
   cases hv;exact⟨rfl,λZ E=>E (.obj _) Aq l q p (T.trans x) (.obj _)⟩
  | _=>exact w.elim
end
section
variable{I:Ag}{B:Av}{K:Frag}{scope:Scope}{names:List Str}{r:Nat}
inductive J6(y:Str):List Nat->List Expr->Prop
 | nil:J6 y [] []
 | cons {f:Nat} {x:Str} {p q:Pos} {fs:List Nat} {es:List Expr}:CJ[f]?=some x->J6 y fs es->J6 y (f::fs) (.Attribute (.Name y q) x p::es)
def gA(h:J6 y F E)(e:Env):(assignEach E e).length=F.length/\(assignEach E e).findIdx? (·.1)=none:=by
 induction h with
 | nil=>exact⟨rfl,rfl⟩
 | @cons f x p q F E a b C=>
  refine(?_:((false,assign (.Attribute (.Name y q) x p) e)::assignEach E e).length=_/\((false,assign (.Attribute (.Name y q) x p) e)::assignEach E e).findIdx? _=none);refine⟨by simp[C.1],?_⟩;rw[List.findIdx?_cons];simp[C.2]
def gB(I:Ag)(F:Facts B K){L:Fm}(ho:Bv env scope L)(hr:Bn r A)(hy:names[i]?=some y)(hl:scope.names.lookup y=some .local)(hd:(y==("__debug__":Str))=false)(ht:J6 y fs es):
  ∀{vs:List AV} {F7:List Value} {J:AE} {σ:AH} {D:Addr->Addr} {s:Shared} {Q:AH->Prop},Cz J i=some (.obj a)->σ.cls a=some c->(∀f∈fs,EU c f=true)->fs.length=vs.length->Af s.heap vs F7->AB B D σ s.heap->B5 B names L D σ J s.heap->Q ((fs.zip vs).foldl (λσ p=>σ.uF a p.1 p.2) σ)->
   wpAny (model B.prog B.w) A (assignInOrder ((assignEach es env).map (·.2)) F7) (Hx B D σ s Q) BG s:=by
 induction ht with
 | nil=>
  intro vs F7 J σ D s Q ha hc hf hlen hv R f hq;cases vs with
  | cons _ _=>simp at hlen
  | nil=>exact assignInOrder_nil (λZ zK=>zK σ D hq R (Ext.refl _ _ _))
 | @cons g x p q fs es hx ht ih=>
  intro vs F7 J σ D s Q ha hc hf hlen hv R f hq;cases vs with
  | nil=>simp at hlen
  | cons v vs=>
   cases hv with
   | cons v1 v2=>
    refine assignInOrder_cons ?_;refine(?_:wpAny _ A (assign (.Attribute (.Name y q) x p) env _) _ _ s);rw[assign_Attribute];haveI h0:B3 I (.J i) (λw A7=>w= .obj a/\A7=σ) J σ:=pO_i ha ⟨rfl,rfl⟩;refine AR (ER (B4 (Pn (I:=I) (r:=r) hy hl hd) ho hr h0 R f λco J4 w0 VU eT w R₀ Jy Vo=>?_));refine Ac (λe1 e2=>?_) w;rw[e2] at R₀ Jy;rw[e1] at Vo;cases Vo.F6;haveI Q8:=f.ext R Jy;haveI kT:=R.DI rfl Jy;refine AR (wpAny_standAt (AR (ER (B6 (Pk F R₀ hc hx (hf g (.head _)) (v1.mono kT) (Q:=λA7=>A7=σ.uF a g v) rfl) (λZ B8 w=>?_) λZ Z x=>x))));refine w _ λNL EI e3 DJ Cr=>?_;rw[e3] at DJ Cr;haveI Ge:=Q8.ext R₀ Cr;refine wpAny_release ?_;refine B6 (ih (Q:=Q) (σ:=σ.uF a g v) ha hc (λf gC=>hf f (.tail _ gC)) (by simpa using hlen) ((v2.mono kT).mono (R₀.DI rfl Cr)) DJ Ge hq) (λZ Bl w=>Hx.trans (Jy.trans Cr) w) λZ Z x=>x
def gD(F:Facts B K)(hy:names[i]?=some y)(O:scope.names.lookup y=some .local)(hd:(y==("__debug__":Str))=false)(a:J6 y G l)(H:AD I B scope names r m e)(j:∀E,swapsWithSole [.Tuple l k p] e P.line E=pure false)(W:swappedStores [.Tuple l k p] e (LB scope)=pure none):
  CL I B scope names r (.A9 (.attrs i G) m) (.Assign [.Tuple l k p] e P):=λE L Aa Q J σ Dc s U t h R f=>by
 refine Assign_Tuple (B4 H U t h R f λcv S va v D gF o C Ce=>?_) (j E) (Q3 W U);refine Ah gF λvs N w=>?_;refine Ah w λx hx w=>?_;refine Ah w λaa Y w=>?_;refine Ah w λcb M w=>?_;refine C9 w λd hlen T=>?_;cases AV.GZ N;cases AV.G1 Y;haveI V:=f.ext R C;rw[PyProof.Rows.assign_Tuple];refine AR (wpAny_standAt ?_);unfold unpack;refine Ac (λH n=>?_) (gA a E);rw[n,H];refine AR (ER (Q7 t.handled o Ce (vs:=vs) rfl hlen λF7 A0 g vr=>?_));haveI X:=Q6 (σ:=v) (D:=D) (s:=S) (tk:=S.toks) g;have c:AB B D v A0:=o.grow λb oa e=>g b oa (Cc (Cm e)) e;have A:=V.ext o X;refine B6 (gB I (Q:=λA7=>Q .next J A7) F U t hy O hd a hx M d hlen vr c A T) (λZ D0 w=>?_) λZ Z x=>x;exact BO.of f R (C.trans X) (Ju (Q:=Q) A c w)
def gG:AD I B scope names r (.k (.bytes (l.map λx=>(x.toNat:Int)))) (.Constant (.bytes l) k p):=λe L A Q J S D s H t h R f=>
 PySem.W.Constant_bytes (AS.pure h R (.bytes _ rfl))
def gH{m M:ME}(l:∀E W,attributeBase o ("add":Str) E W=W)(hp:(A.endLine==P.line)=true)(A0:AD I B scope names r m o)(V:AD I B scope names r M v)(y:∀E,starEach [v] E=(false,eval v E)::starEach [] E):AD I B scope names r (.Ur m M) (.Call (.Attribute o ("add":Str) A) [v] [] P):=λE L Aa Qa J σ Dc s U F h R f=>by
 refine I0 l (by simp) (by rw[y];rfl) hp (B4 A0 U F h R f λco B8 x Bk EI w p G Ce=>?_);refine AF.CG Ce w λa w=>Ah w λt0 NY DV=>?_;refine getMethod_set_add (p.set _ _ NY).2 ?_;rw[y];refine callWith_builtin (args:=[(false,eval v E)]) rfl (evalArgs_plain ?_);refine Calls.spliced_cons (B4 V U F DV p (f.ext R G) λcv Bl ya DA d w c FW F8=>Calls.spliced_nil ?_);refine AF.CS F8 w λi u w=>Ah w λt H w=>?_;obtain ⟨hlen,Q,hq⟩:=w;rcases c.set _ _ H with⟨n,g⟩
 refine call_set_add (intKind_is _ _ i u) rfl g (by refine(?_:t.length+1<4096);exact A3 0x4900018d0100028fa04300441 [_] [] hlen) λC Y X=>?_;have j:C.SetOf (intKind B.prog B.w) a (λk=>decide (k∈t++[i])) (t++[i]).length:=by
  haveI S:(λK=>decide (K∈t)||decide (K=i))=λk=>decide (k∈t++[i]):=by funext k;simp
  haveI T:(if decide (i∈t)=true then t.length else t.length+1)=(t++[i]).length:=by simp[Q]
  rw[S,T] at X;exact X
 obtain ⟨N,kT⟩:=c.uS H Y.extBut (by rw[List.nodup_append];exact⟨n,by simp,by intro x hx ya O;simp at O;subst O;exact λe=>Q (e▸hx)⟩) j;refine AS.trans (G.trans FW) (λZ D=>D .none _ d hq N (λZ D=>D (λb o e nc=>Y.extBut b o (λz=>nc (z▸Kn H)) e) (λb x=>?_) rfl rfl) .none);obtain x| rfl:=Ui x;exact .inl x;exact .inl (Kn H)
def gI(G:Bw B){m:ME}{l:List AV}{b:Addr}{W:List Value}{c:Nat}{o:Expr}{y:Str}{a Y j:Pos}(N:scope.names.lookup y=some .globalImplicit)(hd:(y==("__debug__":Str))=false)(A0:G.mg y=some (.ref b))(v:IsL B.h0 b W.toArray c)(M:Af B.h0 l W)
  (d:∀e Q,attributeBase o ("extend":Str) e Q=Q) (T:(a.endLine==j.line)=true) (C:AD I B scope names r m o):AD I B scope names r (.extendK m l) (.Call (.Attribute o ("extend":Str) a) [.Name y Y] [] j):=λe L A Qa J σ D s H K h R f=>by
 refine I0 d (by simp) rfl T (B4 C H K h R f λco B8 xa Bk g w t X V=>?_);refine AF.CG V w λaa w=>Ah w λu E w=>?_;refine Ac (λS U=>?_) w;refine B9 (t.list E) λO n p pr=>?_;refine NJ p F.slot_list_extend F.type_list_extend ?_;refine P.extend_list (GS (by rw[H.sc];exact H.kind) (by unfold Env.kindOf;rw[H.sc];exact N) (Calls.loadGlobal_global (by rw[H.globals];exact G.g.keeps t.Ao) A0 ?_) hd);haveI q:=t.Ao _ _ v;unfold room at S;refine⟨b,_,_,n,c,?_,?_,?_,rfl,p,q,AS.trans X (L0 t E p (λx=>x++W.toArray) (Hy:=O++W) (by simp) (pr.append (M.mono (BM.of t.Ao))) .none U)⟩
 ·rw[BH,pr.length,Eo];exact A3 0x44000000a30051e848041a02100482 [_,_] [] S
 ·rw[BH,BH,pr.length,M.length,Eo];exact A3 0x10808200000051a0210051e848041a02100482 [_,_] [] S
 ·rw[BH,BH,pr.length,M.length];haveI:=Eo;simp[Builtin.List.listTooLong]
  (first| lia| omega)
def gJ(x:Value)(m:Nat):List.foldl (λX t=>X++t) #[] (List.replicate m #[x])=(List.replicate m x).toArray:=by
 haveI K:∀(m:Nat) (a:Array Value),List.foldl (λX t=>X++t) a (List.replicate m #[x])=a++(List.replicate m x).toArray:=by
  intro m;induction m with
  | zero=>intro a;simp
  | succ m C=>intro a;rw[List.replicate_succ,Im,C,List.replicate_succ];apply Array.toList_inj.mp;simp
 rw[K];simp
set_option tactic.hygienic true in
def gK{M v:ME}(N:AD I B scope names r M a)(S:AD I B scope names r v n):AD I B scope names r (.rep M v) (.BinOp a .Mult n P):=λO L A Q J X D s U E h R f=>by
 refine wpAny_BinOp (EX N S U E h R f λx y A0 K l Y s' w j W V d=>?_);refine AF.CG V w λo w=>Ah w λu G w=>AF.CS d w λm t w=>?_;obtain ⟨h0,H,z,rfl,T⟩:=w;obtain ⟨us,k,p,pr⟩:=j.list G;cases pr with
 | cons r1 r2=>
  cases r2;rename_i c;refine wpAny_binaryOp_repeat_ref (T:="list") (U:="int") (by decide) ⟨_,p,rfl⟩ (λs'=>typeIs_int s' m t) noFill_list_mul F.fills_int_mul F.slot_int_rmul repeat_list F.slot_int_index.lookup
   (call_meets F.slot_int_rmul (typeIs_int s' m t) F.entry_int_rmul (F.args_int_rmul_2 _ _) (int___rmul___int_list m t o [c].toArray k)
    ⟨p,rfl,⟨_,p,rfl⟩,call_meets F.slot_list_mul ⟨_,p,rfl⟩ F.entry_list_mul (F.args_list_mul_2 _ _)
     (AutoListH.list___mul___list_int_3 o [c].toArray k m t (by simp[Builtin.List.listFitsIndex];exact AK 0x7310000000000000000d1804b0088800000000000000068d601000bfa04300840 [] [_] h0 H) (by haveI e:[c].toArray.size=1:=rfl;rw[e,Nat.one_mul];(first| lia| omega)) (by haveI:=Eo;simp[Builtin.List.listTooLong];exact AK 0xb2802012fe810c0254000000a300441 [_] [_] H this)) ⟨p,?_⟩⟩)
  refine HN (vs:=List.replicate m.toNat c) j ?_ T ?_
  ·haveI:∀n,Af s'.heap (List.replicate n z) (List.replicate n c):=λn=>by
    induction n with
    | zero=>exact .nil
    | succ n C=>rw[List.replicate_succ,List.replicate_succ];exact .cons r1 C
   exact this _
  ·refine(?_:s'.heap.push _=s'.heap.push _);rw[<-gJ];rfl
end
section
variable{prog:Program}{w:World}{A:Around}{E:Value->Shared->Prop}{s:Shared}{T:String}{r d:Addr}{n:Nat}{P:Nat->Value->Prop}{OK:Heap->Prop}
def Vp{Q:Value->Shared->Prop}(K:KdlSrc prog w T r d n P OK)(m:A.handled=none)(O:OK s.heap)(S:n<64){a:List Int}(p:∀V:List Value,V.length=n->(∀(j:Nat) (v:Value),V[j]?=some v->P j v)->IntsAre V a)
  (h:∀(H:Heap) (tk:Nat) (out:List Value) (b e:Nat) (N:List Int),(∀c o,s.heap.get? c=some o->H.get? c=some o)->s.heap.get? b=none->IsL H b out.toArray e->IntsAre out N->N.Perm a->N.Pairwise (· <=·)->Q (.ref b) {s with heap:=H,toks:=tk}):
  wpAny (model prog w) A (call (.builtin "sorted") [.ref r]) Q E s:=by
 refine call_function_entry kind_sorted plain_sorted entry_sorted (args_sorted1 _) ?_;unfold Builtin.«sorted»;refine AR (m:=checkCount "sorted" 1 1 _) (An ?_);refine AR (kdu_collect (A:=A.in1) K m O (by rw[Eo];exact A3 0x220000005180291004300441 [_] [] S) λH tk acc R f=>?_);haveI M:acc.toList.length=n:=by rw[Array.length_toList];exact f.1
 refine AR (wpAny_newList ?_ (by rw[M,Eo];exact A3 0x220000005180291004300441 [_] [] S));haveI t:(H.push (seqObj "list" acc.toList.toArray 0)).get? H.objs.size=some (seqObj "list" acc.toList.toArray 0):=ED _ rfl;haveI I:=p acc.toList M λj v e=>f.2 j v (by rw[<-Array.getElem?_toList];exact e);refine AR (ER (wpAny_call_entry slot_list_sort ⟨_,t,rfl⟩ entry_list_sort (list_sort_tree (s:={s with heap:=H.push (seqObj "list" acc.toList.toArray 0),toks:=tk}) t I (by rw[M];exact S) λout N B g D=>⟨_,rfl,?_⟩) (args_list_sort _)));refine AW (sortedHeap_at (out:=out) t) λe l=>?_;refine An ⟨_,rfl,h _ tk out.toList H.objs.size e N (λc o q=>?_) ?_ (l) B g D⟩
 ·haveI C:=Cm (R c o q);refine(sortedHeap_old (Cc C) (by rw[Heap.size_push];exact Nat.lt_succ_of_lt C)).trans ?_;exact CZ _ (R c o q)
 ·cases q:s.heap.get? H.objs.size with
  | none=>rfl
  | some o=>exact Ad (Cm (R _ _ q)) (Nat.lt_irrefl _)
end
section
variable{I:Ag}{B:Av}{K:Frag}{scope:Scope}{names:List Str}{r:Nat}
def Vq{K:List (Int×Value)}:∀V:List Value,V.length=K.length->(∀(j:Nat) (v:Value),V[j]?=some v->∃k x,K[j]?=some (k,x)/\(intKind B.prog B.w).is k v=true)->IntsAre V (K.map (·.1)):=by
 induction K with
 | nil=>intro V e _;cases V with| nil=>exact .nil| cons _ _=>cases e
 | cons p K C=>
  intro V e H;cases V with
  | nil=>cases e
  | cons v V=>
   refine B9 (H 0 v rfl) λk x E R=>?_;simp at E;subst E;rcases Value.isInt_shape R with⟨t,rfl⟩
   exact .cons _ _ (C V (by simpa using e) λj v h=>by exact(H (j+1) v (h)))
def gL(F:Facts B K)(G:Bw B)(A0:True){m:ME}{x:Str}{a:Expr}{g P:Pos}(O:scope.names.lookup x=some .globalImplicit)(hd:(x==("__debug__":Str))=false)(o:G.mg x=none)(c:G.mb x=some (.builtin "sorted"))
  (N:AD I B scope names r m a) (d:∀e,starEach [a] e=(false,eval a e)::starEach [] e):AD I B scope names r (.Ul m) (.Call (.Name x g) [a] [] P):=λe L A Q J σ D s U t h R f=>by
 refine Js G O hd o c tyB N d U t h R f λva cv n Aq s' w j X=>?_;refine AF.CG X w λoa w=>Ah w λu E w=>?_;refine Ac (λhlen W=>?_) w;refine AJ (j.AL _ _ E) λY l V=>?_;refine AW l.dictAt λv T=>?_;refine Vp (kdl_dict (knd:=intKind B.prog B.w) (kvs:=Y) (ep:=v) (L4 F j A0 (.inl (nn E)))) t.handled T (by rw[V.length];exact hlen) Vq λC tk out b ea VQ k y p S H M=>?_;rw[V.keys] at H;cases Py H M;exact L6 (s':={s' with heap:=C,toks:=tk}) j y k p (Pt S) W
def gM(F:Facts B K)(G:Bw B)(Q2:True){A0:ME}{x:Str}{a:Expr}{Jt C M pos:Pos}(n:scope.names.lookup x=some .globalImplicit)(hd:(x==("__debug__":Str))=false)(j:G.mg x=none)(d:G.mb x=some (.builtin "sorted"))
  (P:AD I B scope names r A0 a) (U:∀E W,attributeBase a ("keys":Str) E W=W) (hp:(C.endLine==M.line)=true) (y:∀E,starEach [.Call (.Attribute a ("keys":Str) C) [] [] M] E=(false,eval (.Call (.Attribute a ("keys":Str) C) [] [] M) E)::starEach [] E):
  AD I B scope names r (.Um A0) (.Call (.Name x Jt) [.Call (.Attribute a ("keys":Str) C) [] [] M] [] pos):=λE L Aa Qa J σ Dc s H v h R f=>by
 refine AR (GS (by rw[H.sc];exact H.kind) (by unfold Env.kindOf;rw[H.sc];exact n) (Calls.loadGlobal_builtin (by rw[H.globals];exact G.g.keeps R.Ao) j (by rw[H.builtins];exact G.b.keeps R.Ao) d ?_) hd);refine PyProof.Rows.callWith_builtin1 ?_ (y E) rfl;rw[y];refine Calls.spliced_cons (I0 U (by simp) rfl hp (B4 P H v h R f λcv S va Bk D w p Cr Ce=>?_));refine AF.CG Ce w λo w=>Ah w λu A w=>?_;refine Ac (λhlen hq=>?_) w;refine AJ (p.AL _ _ A) λY l V=>?_;haveI gN:=L4 F p Q2 (.inl (nn A));refine getMethod_builtin l.typeIs PySem.F.plainAttrs_dict PySem.F.slot_dict_keys PySem.F.type_dict_keys (λb e=>?_) ?_
 ·injection e with e;subst e
  obtain ⟨ob,es,t,Jz,X,_⟩:=l;exact⟨ob,Jz,X.2.1⟩
 refine callWith_builtin rfl (evalArgs_nil3 ?_);refine call_meetsIn PySem.F.slot_dict_keys l.typeIs PySem.F.entry_dict_keys (PySem.F.args_dict_keys_1 _) (kdl_meets_keys (intKind B.prog B.w) o gN) ⟨⟨Y,l⟩,?_⟩;refine Calls.spliced_nil ?_;refine AW l.dictAt λt T=>?_;haveI FW:=Ext.D1 (σ:=Bk) (D:=D) (s:=S) {cls:=.type "dict_keys",data:=.fields #[.ref o]};haveI c:=p.D1 {cls:=.type "dict_keys",data:=.fields #[.ref o]};refine Vp (s:={S with heap:=S.heap.push {cls:=.type "dict_keys",data:=.fields #[.ref o]}}) (kdl_keys (knd:=intKind B.prog B.w) (d:=o) (r:=S.heap.objs.size) (kvs:=Y) (ep:=t)) v.handled ⟨⟨_,ED _ rfl,rfl,rfl⟩,T.push _⟩ (by rw[V.length];exact hlen) Vq λN tk out b e VQ k g pa Q m O=>?_;rw[V.keys] at m;cases Py m O;exact AS.trans (Cr.trans FW) (L6 (s:={S with heap:=S.heap.push {cls:=.type "dict_keys",data:=.fields #[.ref o]}}) (s':={S with heap:=N,toks:=tk}) c g k pa (Pt Q) hq)
def gO{k k2:Nat}:AD I B scope names r .Uu (.Dict [some (.Constant (.int 0) k p)] [.Constant (.bool true) k2 P] j):=λm L A Q J S D s U v h R f=>by
 refine wpAny_Dict_pairs (knd:=intKind B.prog B.w) (pairs:=[(eval (.Constant (.int 0) k p) m,do let x<-eval (.Constant (.bool true) k2 P) m;standAt j;pure x)]) rfl (List.cons_ne_nil _ _) (by simp) ?_;refine evalPairs_cons (wpAny_Constant_int (AR (Constant_bool (AR (wpAny_standAt (An (evalPairs_nil ?_)))))));refine⟨[(0,.bool true)],⟨intKind_is _ _ _ _,rfl,trivial⟩,Heap.DictOf.new s.heap,λt hd y=>?_⟩;haveI T:∀a,S.fresh a->Q (.obj a) (S.uI a [(0,.bool true)]):=h;haveI H:=tooBig s.heap;have K:∀b o,s.heap.get? b=some o->t.get? b=some o:=λb o e=>(y.2 b (Cc (Cm e))).trans (CZ _ e);refine Ac (λl c=>?_) (R.nI H R.PV (λb o Z q=>K b o q) (l:=[(0,.bool true)]) hd (.cons (.bool true) .nil));refine(λZ E=>E (.obj s.heap.objs.size) _ D (T _ (Ep (R.free H))) l (λZ E=>E (λb o q Z=>K b o q) (λb x=>?_) rfl rfl) (.obj _));obtain x| rfl:=PX x;exact .inl x;exact .inr H
end
section
variable{I:Ag}{B:Av}{K:Frag}{scope:Scope}{names:List Str}{r:Nat}
def gP{e:Env}(Q:e.scope.kind= .function){N:List (Str×NameKind)}{x:Str}(h:N.lookup x=some .free)(A0:e.kindOf x=some .cell):
  (N.map λ(n,k)=>if(k==NameKind.free&&e.scope.kind==.function&&e.kindOf n==some .cell) then(n,NameKind.cell) else(n,k)).lookup x=some .cell:=by
 induction N with
 | nil=>cases h
 | cons q r C=>
  cases q with
  | mk n k=>
  refine(?_:List.lookup x ((if(k==NameKind.free&&e.scope.kind==.function&&e.kindOf n==some .cell)=true then(n,NameKind.cell) else(n,k))::_)=_);cases H:x==n with
  | true=>
   simp only[List.lookup_cons,H] at h;cases h;rw[D7] at H;subst H;rw[A6 (by rw[Q,A0];rfl)];simp[List.lookup_cons]
  | false=>
   simp only[List.lookup_cons,H] at h;by_cases O:(k==NameKind.free&&e.scope.kind==.function&&e.kindOf n==some .cell)=true
   ·rw[A6 O];simp only[List.lookup_cons,H];exact C h
   ·rw[A5 O];simp only[List.lookup_cons,H];exact C h
def gQ{cs:Scope}{env:Env}{z:Str}{c:Addr}(hc:env.cells.lookup z=some c){l:List (Str×NameKind)}{acc:List (Str×Addr)}(h:∀p∈l,p.2= .free->p.1=z):
  ∃cl,(forIn l acc λ(p:Str×NameKind) (r:List (Str×Addr))=>if(p.2==NameKind.free)=true then do let a<-cellOf env p.1;pure (ForInStep.yield ((p.1,a)::r)) else pure (ForInStep.yield r):Sem (List (Str×Addr)))=pure cl/\((∃p∈l,p.2= .free)->cl.lookup z=some c)/\(acc.lookup z=some c->cl.lookup z=some c):=by
 induction l generalizing acc with
 | nil=>exact⟨acc,rfl,λw=>w.elim λp w=>(List.not_mem_nil w.1).elim,id⟩
 | cons p l ih=>
  by_cases e:p.2= .free
  ·haveI ez:p.1=z:=h p (.head _) e;refine BX (ih (acc:=(p.1,c)::acc) λq hq=>h q (.tail _ hq)) λcl h1 h2 h3=>?_;haveI hl:List.lookup z ((p.1,c)::acc)=some c:=by rw[Kd,ez];simp
   refine⟨cl,?_,λZ=>h3 hl,λZ=>h3 hl⟩;rw[List.forIn_cons,A6 (by rw[e];rfl)];unfold cellOf;rw[ez,hc];haveI h1:=(ez)▸h1;exact h1
  ·refine BX (ih (acc:=acc) λq hq=>h q (.tail _ hq)) λcl h1 h2 h3=>?_;refine⟨cl,?_,λw=>w.elim λq w=>?_,h3⟩
   ·rw[List.forIn_cons,A5 (by simpa using e)];exact h1
   ·exact(Co.mp w.1).elim (λg=>Ad (g▸w.2) e) λhq=>h2 ⟨q,hq,w.2⟩
def gR{x y:Str}{E t:Expr}{P p:Pos}{C:List Expr}{I:Scope}{c:Pos}{l:Nat}{e:Env}{L:Fm}(h:Bv e scope L)(O:scope.names.lookup y=some .local)(a:(p.line==c.line)=true)(S:(I.names.any λ(n,k)=>n==y&&(k==.local||k==.cell))=false):
  swapsWith (.ListComp E [⟨.Name x P,t,C,0⟩] I c) (some (.Name y p)) l e=pure true:=by
 haveI H:e.blockKind= .function:=by unfold Env.blockKind;rw[h.sc,h.kind];rfl
 haveI m:e.kindOf y=some .local:=by unfold Env.kindOf;rw[h.sc];exact O
 refine(?_:(pure (e.blockKind==.function&&e.kindOf y==some .local&&p.line==c.line&&!(I.names.any λ(n,k)=>n==y&&(k==.local||k==.cell))):Sem Bool)=pure true);rw[H,m,a,S];rfl
noncomputable def pI (p:Int->Bool)(v:Value):Bool:=match v with| .int a _=>p a| _=>false
def fI(f:Int->Int)(v y:Value):Prop:=∃a t u,v= .int a t/\y= .int (f a) u
def Vr{h:Heap}{L:Int->Bool}{f:Int->Int}{C:List Int}:∀{U y:List Value},Af h (C.map .int) U->Paired (fI f) (U.filter (pI L)) y->∀H:Heap,Af H ((C.filter L).map λn=>.int (f n)) y:=by
 induction C with
 | nil=>intro U y x p H;cases x;cases p;exact .nil
 | cons i C X=>
  intro U y x p H;cases x with
  | cons a b=>
   rcases a.DU with⟨t,rfl⟩
   rw[List.filter_cons] at p;rw[List.filter_cons];revert p;refine(?_:Paired _ (if L i=true then _ else _) _->_);by_cases P:L i=true
   ·rw[A6 P,A6 P];intro p;cases p with
    | cons v D=>
     obtain ⟨A,T,u,e,E⟩:=v;cases e;subst E;exact .cons (.int _ _) (X b D H)
   ·rw[A5 P,A5 P];exact λp=>X b p H
def Vs{me:ME}{i:Nat}{pz:Int->Bool}{f:Int->Int}{x y:Str}{elt iter:Expr}{px py:Pos}{ifs:List Expr}{p:Scope}{J8 NZ:Pos}(LL:G2 scope names i y)(hy:scope.names.lookup y=some .local)
  (he:AD I B scope names r me iter) (FX:∀z∈p.names,z.2≠.cell) (FY:p.kind= .function) (G3:∀z∈p.names,z.2= .local->p.names.lookup z.1=some .local) (hx:p.names.lookup x=some .local)
  (QE:(py.line==J8.line)=true) (hn:(p.names.any λ(n,k)=>n==y&&(k==.local||k==.cell))=false) (hs:∀m x,foldedSetIterable iter m x=pure x)
  {m:Env} {L:Fm} {A:Around} {Qa:Fl->AE->AH->Prop} {J:AE} {E:AH} {D:Addr->Addr} {s:Shared} (h:Bv m scope L) (hr:Bn r A) {cl:List (Str×Addr)} (QF:closureFor p m=pure cl)
  (ha:B3 I me (λv E=>pO v.BS λo=>pO (E.A1 o) λu=>pO (Dx u) λG=>room G.length/\∀a,E.fresh a->Qa .next (AX J i (.obj a)) (E.uL a ((G.filter pz).map λn=>.int (f n)))) J E) (R:AB B D E s.heap) (fo:B5 B names L D E J s.heap)
  (quiet:∀(S Bl:Shared) (t:AH) (F:Addr->Addr) (C:Addr) (Pa:Nat->Value->Prop),B5 B names L F t J S.heap->(∀b o,S.heap.get? b=some o->Bl.heap.get? b=some o)->S.heap.get? C=none->(∀j v,Pa j v->∃a ta,v=Value.int a ta)->
   QuietOnC B.prog B.w A m p cl x ifs elt [C] Pa (pI pz) (fI f) Bl):
  wpAny (model B.prog B.w) A (exec (.Assign [.Name y py] (.ListComp elt [⟨.Name x px,iter,ifs,0⟩] p J8) NZ) m) (BO B names L D E s Qa) BG s:=by
 refine wpAny_Assign_ListComp_free (pI pz) (fI f) (gR h hy QE hn) QF FX FY G3 hx (by unfold Env.kindOf;rw[h.sc];exact hy) (by rw[h.sc,h.kind];rfl)
  (B4 he h hr ha R fo λcv S v t F w Q Cr Ce=>?_) (hs m)
 refine AF.CG Ce w λo w=>Ah w λu hu w=>Ah w λG gS w=>?_;refine Ac (λLA hq=>?_) w;cases NH gS;have Ge:=fo.ext R Cr;refine B9 (Q.list hu) λU n pa V=>?_;haveI Gg:o<S.heap.objs.size:=Cm pa;haveI hI:=tooBig S.heap;have kk:∀b O,S.heap.get? b=some O->(S.heap.push {cls:=.type "list_iterator",data:=.fields #[.ref o,.int 0 0]}).get? b=some O:=λb O q=>CZ _ q;refine(id Ge) _ λmc P no n0 hc X=>?_;obtain ⟨oL,Y⟩:∃oL,S.heap.get? L.ns=some oL:=AW P λo n=>AW n λZ n=>AW n λZ w=>⟨o,w.1⟩;have gT:L.ns≠S.heap.objs.size:=Cc (Cm Y);refine wpAny_pyIter_list (IsL.isList pa) ⟨S.heap.objs.size,[S.heap.objs.size,o],[S.heap.objs.size],U.toArray.size,(λj v=>U.toArray[j]?=some v),_,mc,rfl,Walks.list hr.handled S.heap.objs.size o (Cc Gg) U.toArray,?_,
  ⟨⟨_,ED _ rfl,rfl,rfl⟩,IsL.isList (IsL.push pa _)⟩,?_,?_,?_,quiet S _ t F S.heap.objs.size _ Ge kk hI ?_,?_⟩
 ·rw[BH,V.length,Ak];exact EH LA
 ·intro b l;rw[Heap.size_push];rcases Co.mp l with rfl| l
  ·exact GQ _
  ·rw[Az.mp l];exact Nat.lt_succ_of_lt Gg
 ·rw[h.locals];simpa using gT
 ·rw[h.locals];exact P.push _
 ·intro j v hv;have Vt:U[j]?=some v:=by simpa using hv
  have hj:j<G.length:=by
   haveI:=(D6.mp Vt).1;rw[V.length,Ak] at this;exact this
  refine AJ (V.get (i:=j) (v:=.int G[j]) (by simp[hj])) λcv K T=>?_;rw[Vt] at K;cases K;rcases T.DU with⟨ta,rfl⟩
  exact⟨_,ta,rfl⟩
 ·intro g H tk ys vs hD _ QG hlen hP hF Jp hk;rw[h.locals] at Jp hk;haveI QH:vs=U:=by
   haveI:=list_of_places (items:=U.toArray) hlen hP;exact this
  subst QH;have M:S.heap.get? g=none:=by
   cases q:S.heap.get? g with
   | none=>rfl
   | some O=>exact nO (kk _ _ q) hD
  obtain ⟨en,QG⟩:=QG;have k1:∀b O,b≠L.ns->S.heap.get? b=some O->H.get? b=some O:=λb O l q=>hk b O l (by
   intro X;exact nO q ((Az.mp X)▸hI)) (kk b O q)
  have yt:L.ns≠g:=λe=>by exact nO Y (e▸M)
  have R2:AB B F t (H.hide g):=Q.but (P:=λb=>b=L.ns) (λb O l q=>by
    have gU:b≠g:=λe=>by exact nO q (e▸M)
    exact(Heap.hide_ne H gU).trans (k1 b O l q)) (λb e=>e▸no) (λb e=>e▸n0) λb O vs n e gb Z d=>by
   obtain ⟨o',es,ep,A0,W,_⟩:=P;rw[e] at gb;rw[gb] at A0;cases A0;rw[W] at d;cases d
  haveI rel:=Vr V hF H;have gV:IsL H g ys.toList.toArray en:=by rw[Array.toArray_toList];exact QG
  refine Ac (λR3 kT=>?_) (R2.nL (Heap.hide_self H g) (λb O Z q=>Heap.of_hide q) gV (Vr V hF _));have gW:BM S.heap H:=λa O vs n q Z d=>k1 a O (λe=>by
   obtain ⟨o',es,ep,A0,W,_⟩:=P;rw[e] at q;rw[q] at A0;cases A0;rw[W] at d;cases d) q
  have gX:t.fresh g:=Ep (Q.free M);have Vu:∀b O,S.heap.get? b=some O->¬B2 t F b->¬B2 (t.uL g ((G.filter pz).map λn=>.int (f n))) F b:=λb O q nb x=>by
   rcases Kp x with x| rfl
   ·exact nb x
   ·exact nO q M
  refine BO.of fo R Cr (λZ N=>N .next (AX J i (.obj g)) _ F (hq g gX) trivial R3 (λZ N=>N _ Jp (Vu _ _ Y no) n0 (λz c e=>?_) (λj v e=>?_)) (λZ N=>N (λb O q nb p1 p2=>k1 b O p1 q) (λb x=>?_) rfl rfl))
  ·obtain ⟨a,b,d,O,v,Jz,hd⟩:=hc z c e;exact⟨a,Vu _ _ Jz b,d,O,v,k1 _ _ a Jz,hd⟩
  ·obtain ⟨rfl,rfl⟩| ⟨LM,e⟩:=Q1 e
   ·exact⟨y,.ref g,LL.1,.obj _,.inl ⟨λc e=>(by have:=(h.cells _ _ e).1;rw[hy] at this;cases this),A6 rfl⟩⟩
   ·refine C2 (X j v e) λz cu K T e3=>?_;haveI gY:z≠y:=λq=>by
     subst q;refine AW (D6.mp LL.1) λl1 q1=>?_;refine AW (D6.mp K) λl2 q2=>?_;exact LM ((List.getElem_inj LL.2.1).mp (q2.trans q1.symm))
    refine⟨z,cu,K,T.mono gW,e3.imp (λw=>⟨w.1,?_⟩) λw=>?_⟩
    ·rw[A5 gY];exact w.2
    ·refine C2 w λc O w1 w2 w3=>?_;exact⟨c,O,w1,k1 _ _ (hc z c w1).1 w2,w3⟩
  ·obtain x| rfl:=Kp x
   ·exact .inl x
   ·exact .inr M
end
section
variable{I:Ag}{B:Av}{K:Frag}{scope:Scope}{names:List Str}{r:Nat}
def gZ{M:ME}{k1 k2:Nat}(X:G2 scope names i y)(hy:scope.names.lookup y=some .local)(g:AD I B scope names r M w)(N:∀z∈c.names,z.2≠.cell)(T:∀z∈c.names,z.2≠.free)(d:c.kind= .function)(O:∀z∈c.names,z.2= .local->c.names.lookup z.1=some .local)(W:c.names.lookup x=some .local)(Y:(x==("__debug__":Str))=false)(o:(p.line==m.line)=true)(U:(c.names.any λ(n,k)=>n==y&&(k==.local||k==.cell))=false)(Q:∀E x,foldedSetIterable w E x=pure x):
  CL I B scope names r (.compMod i M) (.Assign [.Name y p] (.ListComp (.BinOp (.Name x p1) .Mod (.BinOp (.Constant (.int 10) k1 p2) .Pow (.Constant (.int 12) k2 p3) p4) p5) [⟨.Name x px,w,[],0⟩] c m) NZ):=λE L Aa Qa J σ Dc s V P h R f=>by
 refine Vs (pz:=λZ=>true) (f:=λn=>n.fmod (10^12)) X hy g N d O W o U Q V P (closureFor_none T) ?_ R f λB8 Bl Bk EI C Pa Ge kk hI D=>⟨?_,?_⟩
 ·haveI e:∀l:List Int,l.filter (λZ=>true)=l:=λl=>by simp
  simp only[e];exact h
 ·intro A0 j v S I4 K _ H G F _ _;refine HE (D j v H) λa t A=>?_;subst A;rw[List.forIn_nil];exact An ⟨rfl,S.heap,S.toks,rfl,λZ Z e=>e⟩
 ·intro A0 j v S I4 K _ H _ G F _ _;refine HE (D j v H) λa t A=>?_;subst A;refine wpAny_BinOp (wpAny_Name (HD (d) (lookup_relabel_local W) G F ?_) Y);refine wpAny_BinOp (wpAny_Constant_int (wpAny_Constant_int ?_));refine pow_int_small (by decide) (by decide) (by decide) ?_;refine mod_int' (by decide) ?_;exact⟨⟨a,t,_,rfl,rfl⟩,S.heap,_,rfl,λZ Z e=>e⟩
def gc{gt:Bool}{M NZ:Pos}(LL:G2 scope names i y)(hy:scope.names.lookup y=some .local)(hz:names[c]?=some z)(P:scope.names.lookup z=some .cell)(gd:(z==("__debug__":Str))=false)(he:AD I B scope names r g F)(FX:∀z∈o.names,z.2≠.cell)(JA:∀p∈o.names,p.2= .free->p.1=z)(Q:o.names.lookup z=some .free)(d:o.kind= .function)(G3:∀z∈o.names,z.2= .local->o.names.lookup z.1=some .local)(W:o.names.lookup x=some .local)(U:(x==("__debug__":Str))=false)(QE:(V.line==M.line)=true)(hn:(o.names.any λ(n,k)=>n==y&&(k==.local||k==.cell))=false)(hs:∀E x,foldedSetIterable F E x=pure x):
  CL I B scope names r (.compLe gt i c g) (.Assign [.Name y V] (.ListComp (.Name x p1) [⟨.Name x px,F,[.Compare (.Name x p2) [if gt then .Gt else .LtE] [.Name z p3] p4],0⟩] o M) NZ):=λE L Aa Qa J σ Dc s H hr h Ra fa=>by
 refine AJ (HL h) λyv gg h=>?_;refine AJ (HL h) λm R h=>?_;cases AV.F5 R;refine AW (H.has z P) λK f=>?_;have gh:=(H.cells z K f).2;refine BX (gQ (cs:=o) (env:=E) gh (l:=o.names) (acc:=[]) JA) λA0 E1 gi Z=>?_;haveI gj:=gi ⟨(z,.free),mem_of_lookup Q,rfl⟩;haveI Nb:E.kindOf z=some .cell:=by unfold Env.kindOf;rw[H.sc];exact P
 haveI QF:closureFor o E=pure A0:=by
  refine(?_:((forIn o.names ([]:List (Str×Addr)) λ(p:Str×NameKind) (r:List (Str×Addr))=>if(p.2==NameKind.free)=true then do let a<-cellOf E p.1;pure (ForInStep.yield ((p.1,a)::r)) else pure (ForInStep.yield r):Sem (List (Str×Addr)))>>= λo=>pure o)=pure A0);refine(E1).symm▸?_;rfl
 refine Vs (pz:=λn=>if gt then decide (m<n) else decide (n<=m)) (f:=λn=>n) LL hy he FX d G3 W QE hn hs H hr QF h Ra fa λB8 Bl Bk EI C Pa Ge kk hI N=>⟨?_,?_⟩
 ·intro l j v S I4 E' _ w A D gk _;refine HE (N j v w) λa t G=>?_;subst G;refine Ge _ λmc ns no n0 hc R=>?_;refine C2 (R c _ gg) λz' cv e1 e2 T=>?_;obtain rfl:z'=z:=BL (e1.symm.trans hz);obtain ⟨tc,rfl⟩:=e2.DU;obtain ⟨T,_⟩| ⟨yu,O,X,Y,w3⟩:=T
  ·exact Ad f (T K)
  rw[f] at X;cases X;have gm:S.heap.get? K=some O:=gk K O (λhb=>by exact nO Y ((Az.mp hb)▸hI)) (kk _ _ Y);rw[List.forIn_cons,A6 rfl];refine AR (AR ?_);rw[Pp];refine AR (Fy (wpAny_Name (HD (d) (lookup_relabel_local W) A D ?_) U) (by cases gt<;>rfl));refine wpAny_Name (wpAny_loadName_cell (d) (gP (by rw[H.sc];exact H.kind) Q Nb) gj ⟨O,gm,w3⟩ ?_) gd;cases gt with
  | true=>
   refine Hz (B:=B) (op:=.gt) (ER (FQ (An ?_)));exact An ⟨rfl,S.heap,S.toks,rfl,λZ Z e=>e⟩
  | false=>
   refine Hz (B:=B) (op:=.le) (ER (FQ (An ?_)));exact An ⟨rfl,S.heap,S.toks,rfl,λZ Z e=>e⟩
 ·intro l j v S I4 E' _ w _ A D _ _;refine HE (N j v w) λa t G=>?_;subst G;refine wpAny_Name (HD (d) (lookup_relabel_local W) A D ?_) U;exact⟨⟨a,t,_,rfl,rfl⟩,S.heap,S.toks,rfl,λZ Z e=>e⟩
end
section
variable{prog:Program}{w:World}{A:Around}{s:Shared}
def gn{elt target iter:PySem.Expr}{ifs:List PySem.Expr}{scope:Scope}{pos:Pos}{it acc:Value}{env:Env}{R:Result->Shared->Prop}(C:Nat->Shared->Prop)
  (turn:∀n s,C n s->wpAny (model prog w) A (pyNext it) (λr B8=>match r with
   | none=>R (.ok .next) B8
   | some v=>wpAny (model prog w) A (letOwnedTupleGo target it v) (λZ J4=>wpAny (model prog w) A (assign target env v) (λZ Bl=>
     wpAny (model prog w) A (forIn ifs true λc r=>if r=true then do let ok<-isTrue c env (eval c env);pure (ForInStep.yield ok) else pure (ForInStep.yield r)) (λok D0=>
      (ok=true->wpAny (model prog w) A (eval elt env) (λx L9=>wpAny (model prog w) A (call (.builtin "list.append") [acc,x]) (λZ Vv=>∃m,m<n/\C m Vv) BG L9) BG D0)/\(ok=false->∃m,m<n/\C m D0)) BG Bl) BG J4) BG B8) BG s)
  (n:Nat) (h:C n s):codeAny (model prog w) A (.compLoop (.ListComp elt [⟨target,iter,ifs,0⟩] scope pos) 0 it acc env) R s:=by
 refine codeAny_loop rfl C (λn s hI=>?_) n h;refine(?_:wpAny _ A ((compTurn (.ListComp elt [⟨target,iter,ifs,0⟩] scope pos) 0 it acc env).onRaise (λx=>do noteFrame x env;theTreesLotGoes x)) _ _ s);refine wpAny_noted ?_;rw[compTurn_list];refine AR (wpAny_standAt (AR (B6 (turn n s hI) (λr B8 DV=>?_) λZ Z h'=>h'.elim)));cases r with
 | none=>exact An DV
 | some v=>
  refine AR (B6 DV (λZ J4 gq=>?_) λZ Z h'=>h'.elim);refine AR (B6 gq (λZ Bl Ga=>?_) λZ Z h'=>h'.elim);refine AR (B6 Ga (λok D0 I5=>?_) λZ Z h'=>h'.elim);cases ok with
  | true=>
   exact AR (AR (B6 (I5.1 rfl) (λx L9 gr=>AR (B6 gr (λZ Vv gu=>An (An ⟨rfl,gu⟩)) λZ Z h'=>h'.elim)) λZ Z h'=>h'.elim))
  | false=>exact An ⟨rfl,I5.2 rfl⟩
end
section
variable{I:Ag}{B:Av}{K:Frag}{scope:Scope}{names:List Str}{r:Nat}
def gv(h:Uv v=some p):v= .AA [.int p.1,.int p.2]:=by
 refine AJ (CP.1 h) λl H h=>?_;rcases l with _| ⟨a,_| ⟨b,_| ⟨c,l⟩⟩⟩<;>first| exact nO h rfl| skip
 ·
  refine AJ (CP.1 h) λi m h=>?_;refine AJ (BY.1 h) λj K A=>?_;subst A;rw[AV.GZ H,AV.F5 m,AV.F5 K]
def gw(h:Jn l=some P):l=P.map λp=>.AA [.int p.1,.int p.2]:=by
 induction l generalizing P with
 | nil=>cases h;rfl
 | cons v l C=>
  refine AJ (CP.1 h) λp H m=>?_;refine AJ (BY.1 m) λQ K A=>?_;subst A;exact congr (AO List.cons (gv H)) (C K)
structure X2(B:Av) where
 B8:Shared
 (o C Dl Cn:Addr)
 us:List Value
 n:Nat
 ps:List (Int×Int)
 p:IsL B8.heap o us.toArray n
 rr:Af B8.heap (ps.map λp=>.AA [.int p.1,.int p.2]) us
 sz:B8.heap.objs.size=C
 hD:Dl=C+1
 hC:Cn=C+2
namespace X2
variable(x:X2 B)
def QI:x.Dl≠x.C:=by rw[x.hD];exact Nat.succ_ne_self _
def Nc:x.Dl≠x.Cn:=by rw[x.hD,x.hC];exact Cc (GQ _)
def Nd:x.C≠x.Cn:=by rw[x.hC];exact Cc (Nat.lt_succ_of_lt (GQ _))
def lt{b:Addr}{o:Obj}(e:x.B8.heap.get? b=some o):b<x.C:=x.sz▸Cm e
def nC{b:Addr}{o:Obj}(e:x.B8.heap.get? b=some o):b≠x.Cn:=by rw[x.hC];exact Cc (Nat.lt_succ_of_lt (Nat.lt_succ_of_lt (x.lt e)))
def nI{b:Addr}{o:Obj}(e:x.B8.heap.get? b=some o):b≠x.C:=Cc (x.lt e)
def nD{b:Addr}{o:Obj}(e:x.B8.heap.get? b=some o):b≠x.Dl:=by rw[x.hD];exact Cc (Nat.lt_succ_of_lt (x.lt e))
def hlen:x.us.length=x.ps.length:=by rw[x.rr.length,Ak]
def E2(h:Heap)(i:Nat)(y:List Value)(e:Nat)(m:Str->Option Value)(l:Prop):Prop:=
 (∀b o,x.B8.heap.get? b=some o->h.get? b=some o)->(h.IsListIter x.C x.o i)->(h.get? x.Dl=some {cls:=.type "list",data:=.seq (List.toArray y) e})->(h.Ns x.Cn m)->l
def St(h:Heap)(i:Nat)(y:List Value)(e:Nat)(m:Str->Option Value):Prop:=Ch (x.E2 h i y e m)
section
variable{x}(zh:x.St h' i ys e m)
def St.old:=zh _ λz Z Z Z=>z
def St.it:=zh _ λZ z Z Z=>z
def St.dl:=zh _ λZ Z z Z=>z
def St.ns:=zh _ λZ Z Z z=>z
end
noncomputable abbrev sh (h:Heap)(tk:Nat):Shared:={x.B8 with heap:=h,toks:=tk}
noncomputable def sel (P:Int->Int->Bool)(f:Int->Int->Int)(i:Nat):List AV:=((x.ps.take i).filter λp=>P p.1 p.2).map λp=>.int (f p.1 p.2)
def JF(p:Int->Int->Bool)(f:Int->Int->Int)(k:Nat)(s':Shared)(l:Prop):Prop:=
 ∀(h:Heap) (tk i:Nat) (y:List Value) (e:Nat) (m:Str->Option Value),s'=x.sh h tk->i<=x.ps.length->k=x.ps.length+1-i->x.St h i y e m->y.length<=i->Af h (x.sel p f i) y->l
def A0(p:Int->Int->Bool)(f:Int->Int->Int)(k:Nat)(s':Shared):Prop:=Ch (x.JF p f k s')
variable{x}{h':Heap}{i:Nat}{ys:List Value}{e:Nat}{m:Str->Option Value}{pf:Int->Int->Bool}{f:Int->Int->Int}
def St.app(s:x.St h' i ys e m)(k:Heap.SameBut x.Dl h' h)(d:h.get? x.Dl=some {cls:=.type "list",data:=.seq (List.toArray y) E}):x.St h i y E m:=
 (λZ B=>B (λb o q=>k.extBut b o (x.nD q) (s.old b o q)) (s.it.extBut k.extBut x.QI.symm) d (s.ns.sameBut k x.Nc.symm))
def A1(s:x.St h' i ys e m):h'.IsList x.o x.us.toArray:=⟨_,s.old _ _ x.p,rfl,_,rfl⟩
def QJ(l:List (Int×Int)):∀v∈(l.map λp=>AV.int (f p.1 p.2)),v.tf:=λv h=>by
 refine AJ (DT.mp h) λp Z A=>?_;subst A;trivial
def gx{lo H:Int}(h:x.ps[i]?=some (lo,H))(P:pf lo H=true):x.sel pf f (i+1)=x.sel pf f i++[.int (f lo H)]:=by
 unfold sel;rw[List.take_add_one,h,List.filter_append,CX];refine(?_:_++([(lo,H)].filter _).map _=_);rw[List.filter_cons_of_pos (by exact P)];rfl
def gy{lo H:Int}(h:x.ps[i]?=some (lo,H))(P:pf lo H=false):x.sel pf f (i+1)=x.sel pf f i:=by
 unfold sel;rw[List.take_add_one,h,List.filter_append,CX];refine(?_:_++([(lo,H)].filter _).map _=_);rw[List.filter_cons_of_neg (by rw[P];exact CW)];exact GR _
def turn{A:Around}{I:Scope}{E:Env}{a b:Str}{p Y n:Pos}{K tk:Nat}{R:Shared->Prop}{W:Unit->Shared->Prop}(g:A.handled=none)(d:I.kind= .function)(I6:I.names.lookup a=some .local)(HU:I.names.lookup b=some .local)(F:a≠b)(h:i<x.ps.length)(s:x.St h' i ys e m)
  (k:∀H D M lo h t u,x.St H (i+1) ys e M->M a=some (.int lo t)->M b=some (.int h u)->x.ps[i]?=some (lo,h)->W () (x.sh H D)):
  wpAny (model B.prog B.w) A (pyNext (.ref x.C)) (λra S=>match ra with
   | none=>R S
   | some v=>wpAny (model B.prog B.w) A (letOwnedTupleGo (.Tuple [.Name a p,.Name b Y] K n) (.ref x.C) v) (λZ J4=>wpAny (model B.prog B.w) A (assign (.Tuple [.Name a p,.Name b Y] K n) (compEnvC I [] x.Cn E) v) W BG J4) BG S) BG (x.sh h' tk):=by
 have P:=Aw h;generalize x.ps[i]=q at P;obtain ⟨lo,h⟩:=q;refine AJ (x.rr.get (i:=i) (v:=.AA [.int lo,.int h]) (by rw[Bb,P];rfl)) λcv L V=>?_;cases V with
 | @AA _ T vs nT pT qT=>
  cases qT with
  | cons q1 w=>
   cases w with
   | cons w q3=>
    cases q3;obtain ⟨t,rfl⟩:=q1.DU;obtain ⟨u,rfl⟩:=w.DU;refine wpAny_pyNext_list_item s.it (A1 s) (x:=.ref T) (by rw[List.getElem?_toArray];exact L) λX y O=>?_;have U:∀{c o},c≠x.C->h'.get? c=some o->X.get? c=some o:=λC e=>(O.2 _ C).trans e;obtain ⟨oi,l,r,A0⟩:=id y;refine NR (s:=x.sh X tk) l r A0 (by decide) ?_;obtain ⟨oT,f,G,N⟩:=pT;refine kcp_assign (env:=compEnvC I [] x.Cn E) g ⟨oT,U (x.nI f) (s.old _ _ f),G,nT,N⟩ (lookup_relabel_local I6) (lookup_relabel_local HU) (by refine(?_:(I.kind==.class||(I.kind==.module&&_))=false);rw[d];rfl) (s.ns.at' λo e=>U x.Nd.symm e) λH D j Q=>?_;exact k H D _ lo h t u (λZ zK=>zK (λb o q=>Q b o (x.nC q) (U (x.nI q) (s.old b o q))) (y.at λo e=>Q _ o x.Nd e) (Q _ _ x.Nc (U x.QI s.dl)) j) ((A5 F).trans (A6 rfl)) (A6 rfl) P
end X2
def Vw{me m2:ME}{pf:Int->Int->Bool}{f:Int->Int->Int}{a b:Str}{elt iter:Expr}{pa pb tp:Pos}{kk:Nat}{ifs:List Expr}{cs:Scope}{J8:Pos}
  (gz:∀(Q:PE) (J:AE) (σ:AH),B3 I m2 Q J σ->B3 I me (λx σ=>pO x.BS λo=>pO (σ.A1 o) λu=>pO (Jn u) λps=>room ps.length/\∀a,σ.fresh a->Q (.obj a) (σ.uL a ((ps.filter λp=>pf p.1 p.2).map λp=>.int (f p.1 p.2)))) J σ)
  (he:AD I B scope names r me iter) (FX:∀z∈cs.names,z.2≠.cell) (JA:∀z∈cs.names,z.2≠.free) (FY:cs.kind= .function) (G3:∀z∈cs.names,z.2= .local->cs.names.lookup z.1=some .local) (I6:cs.names.lookup a=some .local) (HU:cs.names.lookup b=some .local) (LN:a≠b)
  (hs:∀env x,foldedSetIterable iter env x=pure x)
  (tests:∀(env:Env) (Cn:Addr) (s:Shared) (m:Str->Option Value) (lo hi:Int) (t u:Tok) (A:Around) (E:Value->Shared->Prop) (Q:Bool->Shared->Prop),s.heap.Ns Cn m->m a=some (.int lo t)->m b=some (.int hi u)->(∀tk,Q (pf lo hi) {s with toks:=tk})->
   wpAny (model B.prog B.w) A (forIn ifs true λc r=>if r=true then do let ok<-isTrue c (compEnvC cs [] Cn env) (eval c (compEnvC cs [] Cn env));pure (ForInStep.yield ok) else pure (ForInStep.yield r)) Q E s)
  (elts:∀(env:Env) (Cn:Addr) (s:Shared) (m:Str->Option Value) (lo hi:Int) (t u:Tok) (A:Around) (E:Value->Shared->Prop) (Q:Value->Shared->Prop),s.heap.Ns Cn m->m a=some (.int lo t)->m b=some (.int hi u)->(∀tk u,Q (.int (f lo hi) u) {s with toks:=tk})->
   wpAny (model B.prog B.w) A (eval elt (compEnvC cs [] Cn env)) Q E s):
  AD I B scope names r m2 (.ListComp elt [⟨.Tuple [.Name a pa,.Name b pb] kk tp,iter,ifs,0⟩] cs J8):=λenv L A Q J σ D s ho hr h R fo=>by
 rw[eval_ListComp];refine wpAny_comprehension_free (use:=none) rfl (hs env) (closureFor_none JA) FY G3 (B6 (he env L A _ J σ D s ho hr (gz Q J σ h) R fo) (λcv B8 w=>?_) λZ Z x=>x);refine w _ λv Bk EI y1 DJ Cr Ce=>?_;refine Ah y1 λo eo w=>?_;refine Ah w λu hu w=>?_;refine Ah w λps hA w=>?_;refine Ac (λLA hq=>?_) w;cases AV.G1 eo;cases Ce.F6;haveI hB:=gw hA;subst hB;refine B9 (DJ.list hu) λus n p rr=>?_;refine wpAny_pyIter_list (IsL.isList p) (wpAny_newObj_type (hd:=by size_fits) (wpAny_newFunctionEnv FX (by intro y hy;cases hy) (λDV QK Nf=>?_) FY));dsimp only at QK Nf⊢;have z2:((B8.heap.push {cls:=.type "list_iterator",data:=.fields #[.ref o,.int 0 0]}).push {cls:=.type "list",dict:=none,data:=.seq ([]:List Value).toArray}).objs.size=B8.heap.objs.size+2:=by rw[Heap.size_push,Heap.size_push]
 haveI z1:(B8.heap.push {cls:=.type "list_iterator",data:=.fields #[.ref o,.int 0 0]}).objs.size=B8.heap.objs.size+1:=Heap.size_push _ _;have up:∀{b ob},b≠((B8.heap.push {cls:=.type "list_iterator",data:=.fields #[.ref o,.int 0 0]}).push {cls:=.type "list",dict:=none,data:=.seq ([]:List Value).toArray}).objs.size->(B8.heap.push {cls:=.type "list_iterator",data:=.fields #[.ref o,.int 0 0]}).get? b=some ob->DV.get? b=some ob:=λn e=>Nf.extBut _ _ n (CZ _ (CZ _ e));let x:X2 B:=⟨B8,o,_,_,_,us,n,ps,p,rr,rfl,z1,z2⟩
 haveI st:x.St DV 0 [] 0 _:=(λZ zK=>zK (λb ob e=>up (x.nC e) (CZ _ e)) ⟨_,up x.Nd (ED _ rfl),rfl,rfl⟩ (Nf.extBut _ _ x.Nc (CZ _ (ED _ rfl))) QK);have loop:∀tk,codeAny (model B.prog B.w) A (.compLoop (.ListComp elt [⟨.Tuple [.Name a pa,.Name b pb] kk tp,iter,ifs,0⟩] cs J8) 0 (.ref x.C) (.ref x.Dl) (compEnvC cs [] x.Cn env)) (compPost (model B.prog B.w) A BG none (AS B D σ s Q) (.ref x.Dl) x.Cn) (x.sh DV tk):=by
  intro tk;clear up QK Nf;refine gn (x.A0 pf f) ?_ (ps.length+1) (λZ zK=>zK DV tk 0 [] 0 _ rfl (Nat.zero_le _) rfl st (Nat.le_refl _) .nil);intro k s' w;refine w _ λh' tk i ys e m y1 hi y2 sx QM hv=>?_;rcases y1 with rfl;rcases y2 with rfl
  by_cases K0:i<x.ps.length
  ·have lt:x.ps.length+1-(i+1)<x.ps.length+1-i:=Nat.sub_lt_sub_left (Nat.lt_succ_of_lt K0) (GQ i);refine X2.turn hr.handled FY I6 HU LN K0 sx λI5 hG I4 lo hi t u D0 ma mb hp=>?_;refine tests env x.Cn (x.sh I5 hG) I4 lo hi t u A BG _ D0.ns ma mb λVx=>⟨λg=>?_,λg=>⟨_,lt,λZ zK=>zK I5 Vx (i+1) ys e I4 rfl K0 rfl D0 (Nat.le_succ_of_le QM) (X2.gy hp g▸Af.tf (X2.QJ _) hv)⟩⟩;refine elts env x.Cn (x.sh I5 Vx) I4 lo hi t u A BG _ D0.ns ma mb λVy hH=>?_;refine append_at (s:=x.sh I5 Vy) D0.dl (λhJ hL hM=>⟨_,lt,λZ zK=>zK hJ Vy (i+1) (ys++[.int (f lo hi) hH]) (e+1) I4 rfl K0 rfl (D0.app hL (by rw[<-List.push_toArray];exact hM)) (by rw[CE];exact Nat.succ_le_succ QM) (X2.gx hp g▸(Af.tf (X2.QJ _) hv).append (.cons (.int _ _) .nil))⟩) ?_;rw[BH,Eo];haveI h1:ps.length<=1000000:=LA;haveI h2:i<ps.length:=K0;clear hv sx st hq lt;exact CA 0x220000005180280840147a12010620a441084c3 [_,_,_] [] QM h1 h2
  ·obtain rfl:i=x.ps.length:=Nat.le_antisymm hi (Nat.not_lt.1 K0);refine wpAny_pyNext_list_end hr.handled sx.it (X2.A1 sx) (by rw[List.getElem?_toArray,<-x.hlen];exact EP (Nat.le_refl _)) λGa QN=>?_;refine⟨m,sx.ns.at' λob e=>QN _ ob x.Nd.symm e,λI5 Vz=>?_⟩;unfold X2.sel at hv;haveI hv:=(List.take_length)▸hv;exact AS.trans Cr (L6 (n:=e) DJ (I1 (by rw[x.hD];exact Nat.le_succ _)) (λc ob q=>Vz.extBut c ob (x.nC q) (QN c ob (x.nI q) (sx.old c ob q))) (Vz.extBut _ _ x.Nc (QN _ _ x.QI sx.dl)) (Af.tf (X2.QJ _) hv) hq)
 exact codeAny_compStart_list (loop _) (wpAny_pyIter_listiter st.it (loop _))
def hO
  (he:AD I B scope names r me iter)(FX:∀z∈cs.names,z.2≠.cell)(JA:∀z∈cs.names,z.2≠.free)(FY:cs.kind= .function)(G3:∀z∈cs.names,z.2= .local->cs.names.lookup z.1=some .local)(I6:cs.names.lookup a=some .local)(HU:cs.names.lookup b=some .local)(LN:a≠b)(hU:(a==("__debug__":Str))=false)(hs:∀env x,foldedSetIterable iter env x=pure x):AD I B scope names r (.Un me) (.ListComp (.Name a p1) [⟨.Tuple [.Name a pa,.Name b pb] kk tp,iter,[],0⟩] cs J8):=
 Vw (me:=me) (pf:=λZ Z=>true) (f:=λx Z=>x) (λQ J σ h=>by
   haveI e:∀l:List (Int×Int),l.filter (λZ=>true)=l:=λl=>by simp
   simp only[e];exact h) he FX JA FY G3 I6 HU LN hs
  (λenv Cn s m lo hi t u A E Q hn ha hb h=>by rw[List.forIn_nil];exact An (h s.toks))
  (λenv Cn s m lo hi t u A E Q hn ha hb h=>wpAny_Name (HD (FY) (lookup_relabel_local I6) hn ha (h s.toks t)) hU)
def hV{k1 k2 kk:Nat}(he:AD I B scope names r me iter)(FX:∀z∈cs.names,z.2≠.cell)(JA:∀z∈cs.names,z.2≠.free)(FY:cs.kind= .function)(G3:∀z∈cs.names,z.2= .local->cs.names.lookup z.1=some .local)(I6:cs.names.lookup a=some .local)(HU:cs.names.lookup b=some .local)(LN:a≠b)(W4:(b==("__debug__":Str))=false)(hs:∀env x,foldedSetIterable iter env x=pure x):AD I B scope names r (.Uo me) (.ListComp (.BinOp (.Name b p1) .Add (.Constant (.int 1) k1 p2) p3) [⟨.Tuple [.Name a pa,.Name b pb] kk tp,iter,[.Compare (.Name b p4) [.Lt] [.Constant (.int 255) k2 p5] p6],0⟩] cs J8):=
 Vw (me:=me) (pf:=λZ y=>decide (y<255)) (f:=λZ y=>y+1) (λQ J σ h=>h) he FX JA FY G3 I6 HU LN hs
  (λenv Cn s m lo hi t u A E Q hn ha hb h=>by
   rw[List.forIn_cons,A6 rfl];refine AR (AR ?_);rw[Pp];refine AR (Fy (wpAny_Name (HD (FY) (lookup_relabel_local HU) hn hb (wpAny_Constant_int ?_)) W4) rfl);exact Hz (B:=B) (op:=.lt) (ER (FQ (An (An (h _))))))
  (λenv Cn s m lo hi t u A E Q hn ha hb h=>wpAny_BinOp (wpAny_Name (HD (FY) (lookup_relabel_local HU) hn hb (wpAny_Constant_int (wpAny_add_int (h _ _)))) W4))
end
mutual
noncomputable def AV.beq:AV->AV->Bool
 | .none,.none=>true
 | .bool a,.bool b=>a==b
 | .int a,.int b=>a==b
 | .bytes a,.bytes b=>a==b
 | .AA a,.AA b=>HV.beq a b
 | .obj a,.obj b=>a==b
 | _,_=>false
noncomputable def HV.beq:List AV->List AV->Bool
 | [],[]=>true
 | a::r,b::s=>AV.beq a b&&HV.beq r s
 | _,_=>false
end
def A2(h:(a&&b)=true):a=true/\b=true:=GP.mp h
def DC(h:(!a)=true):a=false:=by cases a<;>first| rfl| cases h
def AV.beq_eq(h:AV.beq a b=true):a=b:=
 AV.rec (motive_1:=λa=>∀b,AV.beq a b=true->a=b) (motive_2:=λa=>∀b,HV.beq a b=true->a=b)
  (λb h=>by cases b<;>first| rfl| exact(CW h).elim)
  (λZ b h=>by cases b<;>first| exact AO _ (CQ h)| exact(CW h).elim)
  (λZ b h=>by cases b<;>first| exact AO _ (CQ h)| exact(CW h).elim)
  (λZ b h=>by cases b<;>first| exact AO _ (CQ h)| exact(CW h).elim)
  (λZ X b h=>by cases b<;>first| exact AO _ (X _ h)| exact(CW h).elim)
  (λZ b h=>by cases b<;>first| exact AO _ (CQ h)| exact(CW h).elim)
  (λb h=>by cases b<;>first| rfl| exact(CW h).elim)
  (λZ Z C B b h=>by cases b<;>first| exact congr (AO List.cons (C _ (A2 h).1)) (B _ (A2 h).2)| exact(CW h).elim) a b h
theorem HV.beq_eq:∀{a b:List AV},HV.beq a b=true->a=b
 | a,b,h=>AV.AA.inj (AV.beq_eq (a:=.AA a) (b:=.AA b) h)
inductive GE
 | val (v:AV)
 | fn (k:Nat)
 | A1 (l:List AV)
 | bi (id:String)
 | ty (id:String)
noncomputable def GE.beq:GE->GE->Bool
 | .val u,.val v=>AV.beq u v
 | .fn j,.fn k=>j==k
 | .A1 u,.A1 v=>HV.beq u v
 | .bi i,.bi j=>i==j
 | .ty i,.ty j=>i==j
 | _,_=>false
def GE.beq_eq(h:GE.beq a b=true):a=b:=by
 cases a<;>cases b<;>first| exact(CW h).elim| exact AO GE.val (AV.beq_eq h)| exact AO GE.A1 (HV.beq_eq h)| exact AO _ (CQ h)
structure Ctx where
 scope:Scope
 names:List Str
 rank:Nat
 gl:List (Str×GE)
 Gh:List Str
 I7:List (Addr×Nat×Nat)
noncomputable def kind? (s:Scope)(x:Str)(k:NameKind):Bool:=s.names.lookup x==some k
noncomputable def JB (x:Str):Bool:=!(x==("__debug__":Str))
noncomputable def Ctx.gE (G:Ctx)(x:Str)(g:GE):Bool:=(kind? G.scope x .globalImplicit&&JB x)&&(G.gl.lookup x).any (GE.beq · g)
noncomputable def Ctx.nm (G:Ctx)(i:Nat):Str:=G.names.getD i ""
noncomputable def Ctx.st (G:Ctx)(i:Nat):Bool:=decide (i<G.names.length)&&(kind? G.scope (G.nm i) .local||kind? G.scope (G.nm i) .cell)
noncomputable def Ctx.lo (G:Ctx)(i:Nat):Bool:=decide (i<G.names.length)&&(kind? G.scope (G.nm i) .local&&JB (G.nm i))
def Ng (f:Nat):Str:=CJ.getD f ""
def LO (f:Nat):Bool:=decide (f<CJ.length)
def G4{l:List Str}{i:Nat}(h:decide (i<l.length)=true):l[i]?=some (l.getD i ""):=by
 haveI h:=Cb h;rw[C4,Aw h];rfl
noncomputable def EK (e:Expr):Bool:=!Nat.beq e.ctorIdx 22
noncomputable def Gi (e:Expr):Bool:=if h:e.ctorIdx=16 then Expr.Call.elim (motive_1:=λZ=>Bool) e h λf a k Z=>!(Nat.beq f.ctorIdx 23&&(a.isEmpty&&k.isEmpty)) else true
noncomputable def JC (e:Expr):Bool:=!Nat.beq e.ctorIdx 7
noncomputable def Gj (e:Expr):Bool:=!(Nat.ble 8 e.ctorIdx&&Nat.ble e.ctorIdx 10)
noncomputable def isNm (e:Expr):Bool:=Nat.beq e.ctorIdx 23
noncomputable def nE (e:Expr):Str:=if h:e.ctorIdx=23 then Expr.Name.elim (motive_1:=λZ=>Str) e h λx Z=>x else ""
noncomputable def kE (e:Expr):Nat:=if h:e.ctorIdx=19 then Expr.Constant.elim (motive_1:=λZ=>Nat) e h λZ k Z=>k else if h:e.ctorIdx=25 then Expr.Tuple.elim (motive_1:=λZ=>Nat) e h λZ k Z=>k else 0
noncomputable def bE (e:Expr):List UInt8:=if h:e.ctorIdx=19 then Expr.Constant.elim (motive_1:=λZ=>List UInt8) e h λc Z Z=>(match c with| .bytes l=>l| _=>[]) else []
noncomputable def sE (e:Expr):Scope:=if h:e.ctorIdx=8 then Expr.ListComp.elim (motive_1:=λZ=>Scope) e h λZ Z s Z=>s else default
noncomputable def kids (e:Expr):List Expr:=Expr.casesOn (motive_1:=λZ=>List Expr) e (λZ l Z=>l) (λZ Z Z=>[]) (λa Z b Z=>[a,b]) (λZ a Z=>[a]) (λZ Z Z Z=>[]) (λa b c Z=>[a,b,c]) (λa b Z=>a.filterMap id++b) (λZ Z Z=>[]) (λe g Z Z=>e::g.flatMap λc=>c.target::c.iter::c.ifs) (λZ Z Z Z=>[]) (λZ Z Z Z Z=>[]) (λZ Z Z Z=>[]) (λZ Z=>[]) (λZ Z=>[]) (λZ Z=>[]) (λa Z l Z=>a::l) (λf l Z Z=>f::l) (λZ Z Z Z=>[]) (λZ Z=>[]) (λZ Z Z=>[]) (λa Z Z=>[a]) (λa b Z=>[a,b]) (λZ Z=>[]) (λZ Z=>[]) (λl Z=>l) (λl Z Z=>l) (λa b c Z=>[a,b,c].filterMap id)
noncomputable def kd (e:Expr)(i:Nat):Expr:=(kids e).getD i e
noncomputable abbrev pE (e:Expr):Pos:=e.pos
noncomputable def W5 (e:Expr):Pos:={(kd e 0).pos with endLine:=e.pos.line}
noncomputable def tN (x:Str)(e:Expr):Expr:=.Name x (pE e)
noncomputable def tI (i:Int)(e:Expr):Expr:=.Constant (.int i) (kE e) (pE e)
noncomputable def W6 (o:BoolOp)(p:Pos)(e:Expr):Bool:=if h:e.ctorIdx=0 then Expr.BoolOp.elim (motive_1:=λZ=>Bool) e h λO l P=>!l.isEmpty&&(decide (O=o)&&decide (P=p)) else false
abbrev RE:=Bool×Expr
noncomputable def r1 (a:RE)(c:Expr->Bool)(f:Expr->Expr):RE:=(a.1&&c a.2,f a.2)
noncomputable def r2 (a b:RE)(c:Expr->Expr->Bool)(f:Expr->Expr->Expr):RE:=(a.1&&(b.1&&c a.2 b.2),f a.2 b.2)
noncomputable def r3 (a b c:RE)(k:Bool)(f:Expr->Expr->Expr->Expr):RE:=(a.1&&(b.1&&(c.1&&k)),f a.2 b.2 c.2)
noncomputable def rl (a:Bool×List Expr)(c:List Expr->Bool)(f:List Expr->Expr):RE:=(a.1&&c a.2,f a.2)
noncomputable def rb (o:BoolOp)(p:Pos)(a b:RE):RE:=(a.1&&(b.1&&W6 o p b.2),.BoolOp o (a.2::kids b.2) p)
noncomputable def W7 (o:BoolOp)(e:Expr):Expr:=.BoolOp o (kids e).tail (pE e)
noncomputable def bo (o:BoolOp)(e:Expr)(a b c:RE):RE:=if(kids e).length<=2 then r2 a b (λZ Z=>true) (λx y=>.BoolOp o [x,y] (pE e)) else rb o (pE e) a c
noncomputable def cst (G:Ctx)(v:AV)(e:Expr):RE:=match isNm e with
 | true=>(G.gE (nE e) (.val v),tN (nE e) e)
 | false=>(match v with
  | .int i=>(true,tI i e)
  | .bool b=>(true,.Constant (.bool b) (kE e) (pE e))
  | .none=>(true,.Constant .none (kE e) (pE e))
  | .bytes l=>(l==(bE e).map λx=>(x.toNat:Int),.Constant (.bytes (bE e)) (kE e) (pE e))
  | _=>(false,e))
noncomputable def c1 (o:CmpOp)(e:Expr)(a b:RE):RE:=r2 a b (λZ y=>!behindInMarks o y) (λx y=>.Compare x [o] [y] (pE e))
noncomputable def K1 (e:Expr)(lo h S:Option Expr)(x:Expr):Expr:=.Subscript x (.Slice lo h S (pE (kd e 1))) (pE e)
noncomputable def cN (x:Str)(e:Expr)(l:List Expr):Expr:=.Call (tN x (kd e 0)) l [] (pE e)
noncomputable def cA (x:Str)(e:Expr)(o:Expr)(l:List Expr):Expr:=.Call (.Attribute o x (W5 e)) l [] (pE e)
noncomputable def hY (c:Scope)(a b:Str):Bool:=((kind? c a .local&&kind? c b .local)&&!(a==b))
noncomputable def LP (c:Scope):Bool:=c.names.all (λz=>z.2 !=.cell)&&(c.names.all (λz=>z.2 !=.local||kind? c z.1 .local)&&c.kind==.function)
noncomputable def QO (c:Scope):Bool:=c.names.all λz=>z.2 !=.free
noncomputable def W8 (e:Expr)(E:Expr)(C:List Expr)(it:Expr):Expr:=.ListComp E [⟨.Tuple [tN (nE (kd (kd e 1) 0)) (kd (kd e 1) 0),tN (nE (kd (kd e 1) 1)) (kd (kd e 1) 1)] (kE (kd e 1)) (pE (kd e 1)),it,C,0⟩] (sE e) (pE e)
noncomputable def QP (e:Expr)(x:Str):Bool:=(LP (sE e)&&QO (sE e))&&(hY (sE e) (nE (kd (kd e 1) 0)) (nE (kd (kd e 1) 1))&&JB x)
noncomputable def hZ (G:Ctx)(t:Bool)(o:Og)(r R:Expr->RE)(e:Expr):RE:=match o with
 | .a=>r1 (r (kd e 0)) (λZ=>!t) λx=>.UnaryOp .Invert x (pE e)
 | .b=>r1 (r (kd e 0)) (λZ=>!t) λx=>.UnaryOp .USub x (pE e)
 | .c=>r1 (R (kd e 0)) (λZ=>true) λx=>.UnaryOp .Not x (pE e)
 | .d=>r1 (r (kd e 0)) (λZ=>true) (K1 e none none none)
 | .e=>r1 (r (kd e 0)) (λZ=>true) (K1 e none none (some (.UnaryOp .USub (tI 1 (kd (kd (kd e 1) 0) 0)) (pE (kd (kd e 1) 0)))))
 | .f=>r1 (r (kd (kd e 0) 0)) Gi λx=>cA "pop" e x []
 | .g=>r1 (r (kd e 1)) (λx=>EK x&&G.gE "len" (.bi "len")) λx=>cN "len" e [x]
 | .h=>r1 (r (kd e 1)) (λx=>EK x&&G.gE "sorted" (.bi "sorted")) λx=>cN "sorted" e [x]
 | .i=>r1 (r (kd e 1)) (λx=>EK x&&G.gE "sorted" (.bi "sorted")) λx=>cN "sorted" e [x]
 | .j=>r1 (r (kd (kd (kd e 1) 0) 0)) (λx=>Gi x&&G.gE "sorted" (.bi "sorted")) λx=>cN "sorted" e [cA "keys" (kd e 1) x []]
 | .k=>r1 (r (kd e 1)) (λx=>EK x&&G.gE "list" (.ty "list")) λx=>cN "list" e [x]
 | .l=>r1 (r (kd e 1)) (λx=>EK x&&G.gE "tuple" (.ty "tuple")) λx=>cN "tuple" e [x]
 | .m=>r1 (r (kd e 1)) (λx=>EK x&&G.gE "bytes" (.ty "bytes")) λx=>cN "bytes" e [x]
 | .n=>r1 (r (kd e 2)) (λx=>JC x&&QP e (nE (kd (kd e 1) 0))) (W8 e (tN (nE (kd (kd e 1) 0)) (kd e 0)) [])
 | .o=>r1 (r (kd e 2)) (λx=>JC x&&QP e (nE (kd (kd e 1) 1))) (W8 e (.BinOp (tN (nE (kd (kd e 1) 1)) (kd (kd e 0) 0)) .Add (tI 1 (kd (kd e 0) 1)) (pE (kd e 0))) [.Compare (tN (nE (kd (kd e 1) 1)) (kd (kd e 3) 0)) [.Lt] [tI 255 (kd (kd e 3) 1)] (pE (kd e 3))])
 | _=>(false,e)
def i1 (G:Ctx)(o:Og)(r q R Q:Expr->RE)(e:Expr):RE:=match o with
 | .a=>r2 (r (kd e 0)) (q (kd e 1)) (λZ Z=>true) λx y=>.BinOp x .Add y (pE e)
 | .b=>r2 (r (kd e 0)) (q (kd e 1)) (λZ Z=>true) λx y=>.BinOp x .Mult y (pE e)
 | .c=>r2 (r (kd e 0)) (q (kd e 1)) (λZ y=>!isSlice y) λx y=>.Subscript x y (pE e)
 | .d=>r2 (r (kd e 0)) (q (kd e 1)) (λZ y=>!isSlice y) λx y=>.Subscript x y (pE e)
 | .e=>r2 (r (kd e 0)) (q (kd e 1)) (λZ y=>!isSlice y) λx y=>.Subscript x y (pE e)
 | .f=>r2 (r (kd e 0)) (q (kd (kd e 1) 0)) (λZ Z=>true) λx y=>K1 e none (some y) none x
 | .g=>r2 (r (kd e 0)) (q (kd (kd e 1) 0)) (λZ Z=>true) λx y=>K1 e (some y) none none x
 | .h=>r2 (r (kd e 0)) (q (kd (kd e 1) 0)) (λZ Z=>true) λx y=>K1 e none (some y) none x
 | .i=>r2 (r (kd e 1)) (q (kd e 2)) (λx y=>EK x&&(EK y&&G.gE "max" (.bi "max"))) λx y=>cN "max" e [x,y]
 | .j=>r2 (r (kd e 1)) (q (kd e 2)) (λx y=>EK x&&(EK y&&G.gE "min" (.bi "min"))) λx y=>cN "min" e [x,y]
 | .k=>c1 .In e (r (kd e 0)) (q (kd e 1))
 | .l=>r2 (r (kd (kd e 0) 0)) (q (kd e 1)) (λx y=>Gi x&&EK y) λx y=>cA "append" e x [y]
 | .m=>r2 (r (kd (kd e 0) 0)) (q (kd e 1)) (λx y=>Gi x&&EK y) λx y=>cA "extend" e x [y]
 | .n=>r2 (r (kd (kd e 0) 0)) (q (kd e 1)) (λx y=>Gi x&&EK y) λx y=>cA "add" e x [y]
 | .o=>bo .And e (R (kd e 0)) (Q (kd e 1)) (Q (W7 .And e))
 | .p=>bo .Or e (R (kd e 0)) (Q (kd e 1)) (Q (W7 .Or e))
noncomputable def i3 (G:Ctx)(o:Og)(n:Bool)(r q:Expr->RE)(e:Expr):RE:=match o with
 | .a=>c1 (if n then .NotEq else .Eq) e (r (kd e 0)) (q (kd e 1))
 | .b=>c1 (if n then .NotEq else .Eq) e (r (kd e 0)) (q (kd e 1))
 | .c=>c1 (if n then .IsNot else .Is) e (r (kd e 0)) (q (kd e 1))
 | .d=>c1 (if n then .NotIn else .In) e (r (kd e 0)) (q (kd e 1))
 | .e=>c1 (if n then .NotIn else .In) e (r (kd e 0)) (q (kd e 1))
 | .f=>c1 (if n then .NotIn else .In) e (r (kd e 0)) (q (kd e 1))
 | .g=>c1 (if n then .NotIn else .In) e (r (kd e 0)) (q (kd e 1))
 | _=>(false,e)
noncomputable def i4 (G:Ctx)(o:Og)(e:Expr):RE:=match o with
 | .a=>(true,.Dict [] [] (pE e))
 | .b=>(true,.Dict [] [] (pE e))
 | .c=>(true,.Dict [some (tI 0 (kd e 0))] [.Constant (.bool true) (kE (kd e 1)) (pE (kd e 1))] (pE e))
 | .d=>(G.gE "set" (.ty "set"),cN "set" e [])
 | _=>(false,e)
noncomputable def i5 (G:Ctx)(o:Og)(f:Nat)(r:List Expr->Bool×List Expr)(e:Expr):RE:=match o with
 | .a=>rl (r (kids e)) (λZ=>true) λl=>.Tuple l (kE e) (pE e)
 | .b=>rl (r (kids e)) (λZ=>true) λl=>.List l (pE e)
 | .c=>rl (r (kids e).tail) (λZ=>G.gE (nE (kd e 0)) (.fn f)&&decide (f<G.rank)) (cN (nE (kd e 0)) e)
 | .d=>(false,e)
 | _=>(false,e)
mutual
noncomputable def tc (G:Ctx)(t:Bool):ME->Expr->RE
 | .k v,e=>cst G v e
 | .J i,e=>(G.st i&&JB (G.nm i),tN (G.nm i) e)
 | .attr m f,e=>r1 (tc G false m (kd e 0)) (λx=>LO f&&Gi x) λx=>.Attribute x (Ng f) (pE e)
 | .bin op a b,e=>r2 (tc G false a (kd e 0)) (tc G false b (kd e 1)) (λZ Z=>true) λx y=>.BinOp x op.py y (pE e)
 | .cmp op a b,e=>r2 (tc G false a (kd e 0)) (tc G false b (kd e 1)) (λZ Z=>true) λx y=>.Compare x [op.py] [y] (pE e)
 | .cmp3 p q a b c,e=>r3 (tc G false a (kd e 0)) (tc G false b (kd e 1)) (tc G false c (kd e 2)) true λx y z=>.Compare x [p.py,q.py] [y,z] (pE e)
 | .ite c a b,e=>r3 (tc G true c (kd e 0)) (tc G false a (kd e 1)) (tc G false b (kd e 2)) (!t) λx y z=>.IfExp x y z (pE e)
 | .slFT a b c,e=>r3 (tc G false a (kd e 0)) (tc G false b (kd (kd e 1) 0)) (tc G false c (kd (kd e 1) 1)) true λx y z=>K1 e (some y) (some z) none x
 | .Ar o m E,e=>((tc G false o (kd (kd e 0) 0)).1&&((Di G E (kids e).tail).1&&((Gi (tc G false o (kd (kd e 0) 0)).2&&decide ((Di G E (kids e).tail).2.length<20))&&(decide (m<G.Gh.length)&&G.I7.all λq=>!(q.2.1==m)||decide (q.2.2<G.rank)))),
   cA (G.Gh.getD m "") e (tc G false o (kd (kd e 0) 0)).2 (Di G E (kids e).tail).2)
 | .extendK o l,e=>r1 (tc G false o (kd (kd e 0) 0)) (λx=>Gi x&&G.gE (nE (kd e 1)) (.A1 l)) λx=>cA "extend" e x [tN (nE (kd e 1)) (kd e 1)]
 | .u o a,e=>hZ G t o (tc G false a) (tc G t a) e
 | .b o a b,e=>i1 G o (tc G false a) (tc G false b) (tc G t a) (tc G t b) e
 | .q o n a b,e=>i3 G o n (tc G false a) (tc G false b) e
 | .z o,e=>i4 G o e
 | .s o f E,e=>i5 G o f (Di G E) e
noncomputable def Di (G:Ctx):Cd->List Expr->Bool×List Expr
 | .nil,_=>(true,[])
 | .cons m ms,l=>((tc G false m (l.headD default)).1&&(EK (tc G false m (l.headD default)).2&&(Di G ms l.tail).1),(tc G false m (l.headD default)).2::(Di G ms l.tail).2)
end
def i6(I:Ag)(B:Av)(K:Frag)(g:Ctx)(G:Bw B)(F:Nat->Value)(M:Nat->Str)(o:Prop):Prop:=
 (Facts B K)->(∀x v,g.gl.lookup x=some (.val v)->∃D,G.mg x=some D/\AF B.h0 v D)->(∀x k,g.gl.lookup x=some (.fn k)->G.mg x=some (F k)/\keepIn K (F k)=true)->(∀x l,g.gl.lookup x=some (.A1 l)->∃(a:Addr) (w:List Value) (n:Nat),G.mg x=some (.ref a)/\IsL B.h0 a w.toArray n/\Af B.h0 l w)->(∀x id,g.gl.lookup x=some (.bi id)->G.mg x=none/\G.mb x=some (.builtin id))->(∀x id,g.gl.lookup x=some (.ty id)->G.mg x=none/\G.mb x=some (.type id))->(Iw I K F M)->(∀m x,g.Gh[m]?=some x->M m=x)->(∀c m f,I.Ar c m=some f->∃q∈g.I7,q.2.1=m/\q.2.2=f)->(∀k,k<g.rank->DB I B k (F k))->(g.names.Nodup)->o
def C5(I:Ag)(B:Av)(K:Frag)(g:Ctx)(G:Bw B)(f:Nat->Value)(m:Nat->Str):Prop:=Ch (i6 I B K g G f m)
section
variable{I:Ag}{B:Av}{K:Frag}{AI:Ctx}{G:Bw B}{fv:Nat->Value}{i7:Nat->Str}(zh:C5 I B K AI G fv i7)
def C5.F:=zh _ λz Z Z Z Z Z Z Z Z Z Z=>z
def C5.val:=zh _ λZ z Z Z Z Z Z Z Z Z Z=>z
def C5.fn:=zh _ λZ Z z Z Z Z Z Z Z Z Z=>z
def C5.A1:=zh _ λZ Z Z z Z Z Z Z Z Z Z=>z
def C5.bi:=zh _ λZ Z Z Z z Z Z Z Z Z Z=>z
def C5.ty:=zh _ λZ Z Z Z Z z Z Z Z Z Z=>z
def C5.M:=zh _ λZ Z Z Z Z Z z Z Z Z Z=>z
def C5.mn:=zh _ λZ Z Z Z Z Z Z z Z Z Z=>z
def C5.mt:=zh _ λZ Z Z Z Z Z Z Z z Z Z=>z
def C5.ih:=zh _ λZ Z Z Z Z Z Z Z Z z Z=>z
def C5.nd:=zh _ λZ Z Z Z Z Z Z Z Z Z z=>z
end
def Dj(h:EK e=true)(E:Env):starEach (e::l) E=(false,eval e E)::starEach l E:=by cases e<;>first| rfl| cases h
def HW(h:Gi o=true)(e:Env)(w:Sem Value):attributeBase o x e w=w:=by
 cases o with
 | Call f a k p=>
  cases f with
  | Name i q=>
   cases a<;>cases k<;>first| rfl| cases h
  | _=>rfl
 | _=>rfl
def K3(h:JC e=true)(E:Env)(x:Value):foldedSetIterable e E x=pure x:=by cases e<;>first| rfl| cases h
set_option tactic.hygienic true in
def i8(h:W6 o p e=true):∃y r,e= .BoolOp o (y::r) p:=by
 cases e<;>first| exact(CW h).elim| skip
 rename_i O l P;cases Cb (A2 (A2 h).2).1;cases Cb (A2 (A2 h).2).2;cases l with
 | nil=>exact(CW h).elim
 | cons y r=>exact⟨y,r,rfl⟩
def FA(h:kind? s x k=true):s.names.lookup x=some k:=CQ h
section
variable{I:Ag}{B:Av}{K:Frag}{AI:Ctx}{G:Bw B}{fv:Nat->Value}{mn:Nat->Str}
def i9(G:Ctx)(x:Str)(g:GE)(l:Prop):Prop:=
 (G.scope.names.lookup x=some .globalImplicit)->((x==("__debug__":Str))=false)->(G.gl.lookup x=some g)->l
def LQ(G:Ctx)(x:Str)(g:GE):Prop:=Ch (i9 G x g)
section
variable(zh:LQ AI x g9)
def LQ.l:=zh _ λz Z Z=>z
def LQ.d:=zh _ λZ z Z=>z
def LQ.g:=zh _ λZ Z z=>z
end
def FC(h:AI.gE x g=true):LQ AI x g:=
 (λZ B=>B (FA (A2 (A2 h).1).1) (DC (A2 (A2 h).1).2) (by
  have h:=(A2 h).2;cases e:AI.gl.lookup x with
  | none=>rw[e] at h;cases h
  | some u=>rw[e] at h;exact AO some (GE.beq_eq h)))
variable(I B AI) in
def SX(t:Bool)(m:ME)(e:Expr):Prop:=match t with
 | false=>AD I B AI.scope AI.names AI.rank m e
 | true=>E0 I B AI.scope AI.names AI.rank m e
variable(I B AI) in
abbrev Ok(t:Bool)(m:ME)(r:RE):Prop:=r.1=true->SX I B AI t m r.2
variable(I B AI) in
abbrev S0(m:ME)(e:Expr):Prop:=AD I B AI.scope AI.names AI.rank m e
abbrev iA(e:Expr):Prop:=∀E w,isTrue e E w=(do let v<-w;standAt e.pos;holding [v] (truthy v))
def pl(s:S0 I B AI m e)(h:iA e):SX I B AI t m e:=by
 cases t with
 | false=>exact s
 | true=>exact cL s h
def cm{t:Bool}{m:ME}{x y:Expr}{o:CmpOp}{p:Pos}(s:S0 I B AI m (.Compare x [o] [y] p)):SX I B AI t m (.Compare x [o] [y] p):=by
 cases t with
 | false=>exact s
 | true=>exact cQ s
def nt(s:S0 I B AI m e)(h:(!t)=true):SX I B AI t m e:=by
 cases t with
 | false=>exact s
 | true=>cases h
def k1(C:Ok I B AI false a r)(s:S0 I B AI a r.2->c r.2=true->SX I B AI t m (f r.2)):Ok I B AI t m (r1 r c f):=
 λh=>s (C (A2 h).1) (A2 h).2
def k2{r rb:RE}(C:Ok I B AI false a r)(S:Ok I B AI false b rb)(s:S0 I B AI a r.2->S0 I B AI b rb.2->c r.2 rb.2=true->SX I B AI t m (f r.2 rb.2)):Ok I B AI t m (r2 r rb c f):=
 λh=>s (C (A2 h).1) (S (A2 (A2 h).2).1) (A2 (A2 h).2).2
def k3{r rb R:RE}(C:Ok I B AI t' a r)(S:Ok I B AI false b rb)(v:Ok I B AI false c R)(s:SX I B AI t' a r.2->S0 I B AI b rb.2->S0 I B AI c R.2->k=true->SX I B AI t m (f r.2 rb.2 R.2)):Ok I B AI t m (r3 r rb R k f):=
 λh=>s (C (A2 h).1) (S (A2 (A2 h).2).1) (v (A2 (A2 (A2 h).2).2).1) (A2 (A2 (A2 h).2).2).2
def kc{t:Bool}{m a b:ME}{o:CmpOp}{e:Expr}{r rb:RE}(C:Ok I B AI false a r)(S:Ok I B AI false b rb)(s:∀{p},S0 I B AI a r.2->S0 I B AI b rb.2->behindInMarks o rb.2=false->S0 I B AI m (.Compare r.2 [o] [rb.2] p)):Ok I B AI t m (c1 o e r rb):=
 k2 C S λx y h=>cm (s x y (DC h))
def kb{R rb v:RE}(C:Ok I B AI t a R)(S:Ok I B AI t b rb)(A:Ok I B AI t b v)(O:∀{x p},SX I B AI t b x->SX I B AI t b (.BoolOp o [x] p))(s:∀{x y l p},SX I B AI t a x->SX I B AI t b (.BoolOp o (y::l) p)->SX I B AI t m (.BoolOp o (x::y::l) p)):Ok I B AI t m (bo o e R rb v):=by
 unfold bo;split
 ·exact λh=>s (C (A2 h).1) (O (S (A2 (A2 h).2).1))
 ·intro h;haveI H:=A (A2 (A2 h).2).1;refine(i8 (A2 (A2 h).2).2).elim λy w=>w.elim λr w=>?_;refine(?_:SX I B AI t m (.BoolOp o (R.2::kids v.2) _));rw[w] at H⊢;exact s (C (A2 h).1) H
def iB(X:C5 I B K AI G fv mn)(v:AV)(t:Bool)(e:Expr):Ok I B AI t (.k v) (cst AI v e):=by
 unfold cst;cases isNm e with
 | true=>
  intro h;haveI g:=FC h;exact(X.val _ _ g.g).elim λc w=>pl (bz G g.l g.d w.1 w.2) λZ Z=>rfl
 | false=>
  cases v with
  | int i=>exact λZ=>pl bu λZ Z=>rfl
  | bool i=>exact λZ=>pl s_bool λZ Z=>rfl
  | none=>exact λZ=>pl bw λZ Z=>rfl
  | bytes l=>
   intro h;haveI e:l=_:=CQ h;subst e;exact pl gG λZ Z=>rfl
  | _=>intro h;cases h
def iD(h:(AI.st i&&JB (AI.nm i))=true):S0 I B AI (.J i) (tN (AI.nm i) e):=
 (Bool.or_eq_true_iff.mp (A2 (A2 h).1).2).elim (λw=>Pn (G4 (A2 (A2 h).1).1) (FA w) (DC (A2 h).2)) λw=>bx (G4 (A2 (A2 h).1).1) (FA w) (DC (A2 h).2)
def iE(X:C5 I B K AI G fv mn)(h:(AI.gE x (.fn k)&&decide (k<AI.rank))=true)(s:EJ I B AI.scope AI.names AI.rank e l)(S:l=[]->e= .nil):S0 I B AI (.call k e) (.Call (.Name x p) l [] q):=by
 haveI g:=FC (A2 h).1;haveI H:=Cb (A2 h).2;haveI w:=X.fn _ _ g.g;cases l with
 | nil=>rw[S rfl];exact cW X.F G g.l g.d w.1 w.2 (X.ih k H) H
 | cons a as=>exact s_call X.F G g.l g.d w.1 w.2 (X.ih k H) H s
def iF(X:C5 I B K g G fv mn)(y:Gi x=true)(Q:decide (l.length<20)=true)(h:decide (m<g.Gh.length)=true)(L:(g.I7.all λq=>!(q.2.1==m)||decide (q.2.2<g.rank))=true)(H:(p.endLine==q.line)=true)(S:S0 I B g o x)(s:EJ I B g.scope g.names g.rank e l)(T:l=[]->e= .nil):S0 I B g (.Ar o m e) (.Call (.Attribute x (g.Gh.getD m "") p) l [] q):=by
 have V:∀c f,I.Ar c m=some f->f<g.rank/\DB I B f (fv f):=λc f h=>by
  refine(X.mt c m f h).elim λq w=>?_;haveI:=EE.mp L q w.1;rw[w.2.1,w.2.2,beq_self_eq_true] at this;haveI:=Cb this;exact⟨this,X.ih f this⟩
 cases l with
 | nil=>rw[T rfl];exact cZ X.F X.M (X.mn _ _ (G4 h)) (HW y) H V S
 | cons a as=>exact cY X.F X.M (X.mn _ _ (G4 h)) (HW y) (Cb Q) H V S s
def QQ(h:LP c=true):∀z∈c.names,z.2≠.cell:=λz H e=>by have:=EE.mp (A2 h).1 z H;rw[e] at this;cases this
def QR(h:LP c=true):∀z∈c.names,z.2= .local->c.names.lookup z.1=some .local:=λz H e=>by
 haveI:=EE.mp (A2 (A2 h).2).1 z H;haveI this:=(e)▸this;exact FA this
def QS(h:LP c=true):c.kind= .function:=CQ (A2 (A2 h).2).2
def W9(h:QO c=true):∀z∈c.names,z.2≠.free:=λz H e=>by have:=EE.mp h z H;rw[e] at this;cases this
def I8(e:Expr):((W5 e).endLine==(pE e).line)=true:=beq_self_eq_true _
variable(G) in
def K4(X:C5 I B K AI G fv mn){x:Str}{id:String}{P:Prop}(h:AI.gE x (.bi id)=true)(k:AI.scope.names.lookup x=some .globalImplicit->(x==("__debug__":Str))=false->G.mg x=none->G.mb x=some (.builtin id)->P):P:=
 k (FC h).l (FC h).d (X.bi _ _ (FC h).g).1 (X.bi _ _ (FC h).g).2
variable(G) in
def JD(X:C5 I B K AI G fv mn){x:Str}{id:String}{P:Prop}(h:AI.gE x (.ty id)=true)(k:AI.scope.names.lookup x=some .globalImplicit->(x==("__debug__":Str))=false->G.mg x=none->G.mb x=some (.type id)->P):P:=
 k (FC h).l (FC h).d (X.ty _ _ (FC h).g).1 (X.ty _ _ (FC h).g).2
def WA{P:Prop}(h:QP e x=true)(k:(∀z∈(sE e).names,z.2≠.cell)->(∀z∈(sE e).names,z.2≠.free)->(sE e).kind= .function->(∀z∈(sE e).names,z.2= .local->(sE e).names.lookup z.1=some .local)->
  (sE e).names.lookup (nE (kd (kd e 1) 0))=some .local->(sE e).names.lookup (nE (kd (kd e 1) 1))=some .local->nE (kd (kd e 1) 0)≠nE (kd (kd e 1) 1)->(x==("__debug__":Str))=false->P):P:=
 haveI a:=(A2 (A2 h).1).1;haveI b:=(A2 (A2 h).2).1
 k (QQ a) (W9 (A2 (A2 h).1).2) (QS a) (QR a) (FA (A2 (A2 b).1).1) (FA (A2 (A2 b).1).2) (beq_eq_false_iff_ne.mp (DC (A2 b).2)) (DC (A2 (A2 h).2).2)
def WC(h:(Di AI e l).2=[]):e= .nil:=by
 cases e with
 | nil=>rfl
 | cons _ _=>cases h
def Nh:Ok I B AI t m (false,e):=λh=>(CW h).elim
def DD(X:C5 I B K AI G fv mn)(m:ME):∀t e,Ok I B AI t m (tc AI t m e):=
 ME.rec (motive_1:=λm=>∀t e,Ok I B AI t m (tc AI t m e)) (motive_2:=λM=>∀l,(Di AI M l).1=true->EJ I B AI.scope AI.names AI.rank M (Di AI M l).2)
  (k:=λv t e=>iB X v t e)
  (J:=λi t e h=>pl (iD h) λZ Z=>rfl)
  (attr:=λm f H t e=>k1 (H false _) λs h=>pl (cT X.F s (G4 (A2 h).1) (HW (A2 h).2)) λZ Z=>rfl)
  (bin:=λF a b C S t e=>k2 (C false _) (S false _) λx y Z=>pl (c7 x y) λZ Z=>rfl)
  (cmp:=λF a b C S t e=>k2 (C false _) (S false _) λx y Z=>cm (cD x y))
  (cmp3:=λp q a b c C S r t e=>k3 (C false _) (S false _) (r false _) λx y z Z=>by
   cases t with
   | false=>exact cE x y z
   | true=>exact cR x y z)
  (ite:=λc a b r C S t e=>k3 (t':=true) (r true _) (C false _) (S false _) λx y z h=>nt (cS x y z) h)
  (slFT:=λa b c C S r t e=>k3 (C false _) (S false _) (r false _) λx y z Z=>pl (dI x y z) λZ Z=>rfl)
  (Ar:=λo m E T O t e h=>pl (iF X (A2 (A2 (A2 (A2 h).2).2).1).1 (A2 (A2 (A2 (A2 h).2).2).1).2 (A2 (A2 (A2 (A2 h).2).2).2).1 (A2 (A2 (A2 (A2 h).2).2).2).2 (I8 e) (T false _ (A2 h).1) (O _ (A2 (A2 h).2).1) WC) λZ Z=>rfl)
  (extendK:=λa l C t e=>k1 (C false _) λx h=>(X.A1 _ _ (FC (A2 h).2).g).elim λL w=>w.elim λA0 w=>w.elim λn w=>pl (gI G (FC (A2 h).2).l (FC (A2 h).2).d w.1 w.2.1 w.2.2 (HW (A2 h).1) (I8 e) x) λZ Z=>rfl)
  (u:=λo a C t e=>by
   cases o
   ·exact k1 (C false _) λx h=>nt (c8 x) h
   ·exact k1 (C false _) λx h=>nt (cB x) h
   ·exact λh=>by cases t with| false=>exact cC (C false _ (A2 h).1)| true=>exact cM (C true _ (A2 h).1)
   ·exact k1 (C false _) λx Z=>pl (dH x) λZ Z=>rfl
   ·exact k1 (C false _) λx Z=>pl (dM x) λZ Z=>rfl
   ·exact k1 (C false _) λx h=>pl (s_pop (HW h) (I8 e) x) λZ Z=>rfl
   ·exact k1 (C false _) λx h=>K4 G X (A2 h).2 λq1 Q j d=>pl (df X.F G trivial q1 Q j d x (Dj (A2 h).1)) λZ Z=>rfl
   ·exact k1 (C false _) λx h=>K4 G X (A2 h).2 λq1 Q j d=>pl (dj G q1 Q j d x (Dj (A2 h).1)) λZ Z=>rfl
   ·exact k1 (C false _) λx h=>K4 G X (A2 h).2 λq1 Q j d=>pl (gL X.F G trivial q1 Q j d x (Dj (A2 h).1)) λZ Z=>rfl
   ·exact k1 (C false _) λx h=>K4 G X (A2 h).2 λq1 Q j d=>pl (gM X.F G trivial q1 Q j d x (HW (A2 h).1) (I8 (kd e 1)) (Dj rfl)) λZ Z=>rfl
   ·exact k1 (C false _) λx h=>JD G X (A2 h).2 λq1 Q j d=>pl (dp G q1 Q j d x (Dj (A2 h).1)) λZ Z=>rfl
   ·exact k1 (C false _) λx h=>JD G X (A2 h).2 λq1 Q j d=>pl (dm G q1 Q j d x (Dj (A2 h).1)) λZ Z=>rfl
   ·exact k1 (C false _) λx h=>JD G X (A2 h).2 λq1 Q j d=>pl (du G q1 Q j d x (Dj (A2 h).1)) λZ Z=>rfl
   ·exact k1 (C false _) λx h=>WA (A2 h).2 λq1 Q j d W Y A g=>pl (hO x q1 Q j d W Y A g (K3 (A2 h).1)) λZ Z=>rfl
   ·exact k1 (C false _) λx h=>WA (A2 h).2 λq1 Q j d W Y A g=>pl (hV x q1 Q j d W Y A g (K3 (A2 h).1)) λZ Z=>rfl
   all_goals exact Nh)
  (b:=λo a b C S t e=>by
   cases o
   ·exact k2 (C false _) (S false _) λx y Z=>pl (dP x y) λZ Z=>rfl
   ·exact k2 (C false _) (S false _) λx y Z=>pl (gK x y) λZ Z=>rfl
   ·exact k2 (C false _) (S false _) λx y h=>pl (d8 x y (DC h)) λZ Z=>rfl
   ·exact k2 (C false _) (S false _) λx y h=>pl (d9 x y (DC h)) λZ Z=>rfl
   ·exact k2 (C false _) (S false _) λx y h=>pl (dA x y (DC h)) λZ Z=>rfl
   ·exact k2 (C false _) (S false _) λx y Z=>pl (dE x y) λZ Z=>rfl
   ·exact k2 (C false _) (S false _) λx y Z=>pl (dG x y) λZ Z=>rfl
   ·exact k2 (C false _) (S false _) λx y Z=>pl (dF x y) λZ Z=>rfl
   ·exact k2 (C false _) (S false _) λx y h=>K4 G X (A2 (A2 h).2).2 λq1 Q j d=>pl (dh G q1 Q j d x y (Dj (A2 h).1) (Dj (A2 (A2 h).2).1)) λZ Z=>rfl
   ·exact k2 (C false _) (S false _) λx y h=>K4 G X (A2 (A2 h).2).2 λq1 Q j d=>pl (di G q1 Q j d x y (Dj (A2 h).1) (Dj (A2 (A2 h).2).1)) λZ Z=>rfl
   ·exact kc (C false _) (S false _) λx y h=>cw x y h
   ·exact k2 (C false _) (S false _) λx y h=>pl (dR (HW (A2 h).1) (I8 e) x y (Dj (A2 h).2)) λZ Z=>rfl
   ·exact k2 (C false _) (S false _) λx y h=>pl (dT (HW (A2 h).1) (I8 e) x y (Dj (A2 h).2)) λZ Z=>rfl
   ·exact k2 (C false _) (S false _) λx y h=>pl (gH (HW (A2 h).1) (I8 e) x y (Dj (A2 h).2)) λZ Z=>rfl
   ·exact kb (C t _) (S t _) (S t _) (λx=>by cases t with| false=>exact VF x| true=>exact VG x) λx y=>by cases t with| false=>exact cJ x y| true=>exact cO x y
   ·exact kb (C t _) (S t _) (S t _) (λx=>by cases t with| false=>exact VF x| true=>exact VG x) λx y=>by cases t with| false=>exact cK x y| true=>exact cP x y)
  (q:=λo n a b C S t e=>by
   cases o
   ·exact kc (C false _) (S false _) λx y h=>cF x y h
   ·exact kc (C false _) (S false _) λx y h=>ck x y h
   ·exact kc (C false _) (S false _) λx y h=>cI x y h
   ·exact kc (C false _) (S false _) λx y h=>ct x y h
   ·exact kc (C false _) (S false _) λx y h=>cq x y h
   ·exact kc (C false _) (S false _) λx y h=>d6 X.F trivial x y h
   ·exact kc (C false _) (S false _) λx y h=>d7 X.F trivial x y h
   all_goals exact Nh)
  (z:=λo t e=>by
   cases o
   ·exact λh=>pl dN λZ Z=>rfl
   ·exact λh=>pl dO λZ Z=>rfl
   ·exact λh=>pl gO λZ Z=>rfl
   ·exact λh=>JD G X h λq1 Q j d=>pl (dw G q1 Q j d) λZ Z=>rfl
   all_goals exact Nh)
  (s:=λo k E O t e=>by
   cases o
   ·exact λh=>pl (cU (O _ (A2 h).1)) λZ Z=>rfl
   ·exact λh=>pl (cV (O _ (A2 h).1)) λZ Z=>rfl
   ·exact λh=>pl (iE X (A2 h).2 (O _ (A2 h).1) WC) λZ Z=>rfl
   ·exact λh=>by cases h
   all_goals exact Nh)
  (nil:=λl Z=>NC)
  (cons:=λm M H D l h=>L3 (H false _ (A2 h).1) (D _ (A2 (A2 h).2).2) (Dj (A2 (A2 h).2).1)) m
theorem QT(X:C5 I B K AI G fv mn):∀(M:Cd) (l:List Expr),(Di AI M l).1=true->EJ I B AI.scope AI.names AI.rank M (Di AI M l).2
 | .nil,_,_=>NC
 | .cons m M,l,h=>L3 (DD X m false _ (A2 h).1) (QT X M _ (A2 (A2 h).2).2) (Dj (A2 (A2 h).2).1)
end
noncomputable def sk (s:Stmt):List Expr×List Stmt×List Stmt:=Stmt.casesOn (motive_2:=λZ=>List Expr×List Stmt×List Stmt) s (λZ Z Z Z Z Z Z Z Z Z=>([],[],[])) (λZ Z Z Z Z Z Z Z Z Z=>([],[],[])) (λZ Z Z Z Z Z Z Z Z Z Z=>([],[],[])) (λv Z=>((v.map λv=>[v]).getD [],[],[])) (λZ Z=>([],[],[])) (λts v Z=>(v::ts,[],[])) (λZ Z Z Z Z Z Z=>([],[],[])) (λt Z v Z=>([t,v],[],[])) (λZ Z Z Z Z=>([],[],[])) (λt i b e Z=>([t,i],b,e)) (λZ Z Z Z Z=>([],[],[])) (λc b e Z=>([c],b,e)) (λc b e Z=>([c],b,e)) (λZ Z Z=>([],[],[])) (λZ Z Z=>([],[],[])) (λZ Z Z=>([],[],[])) (λZ Z Z=>([],[],[])) (λZ Z Z Z Z=>([],[],[])) (λZ Z Z Z Z=>([],[],[])) (λZ Z Z=>([],[],[])) (λZ Z=>([],[],[])) (λZ Z Z Z=>([],[],[])) (λZ Z=>([],[],[])) (λZ Z=>([],[],[])) (λe Z=>([e],[],[])) (λZ=>([],[],[])) (λZ=>([],[],[])) (λZ=>([],[],[]))
noncomputable def ek (s:Stmt)(i:Nat):Expr:=(sk s).1.getD i default
noncomputable def JE (G:Ctx):List Nat->List Expr->List Expr
 | [],_=>[]
 | i::is,l=>tN (G.nm i) (l.headD default)::JE G is l.tail
noncomputable def Ni (y:Str):List Nat->List Expr->List Expr
 | [],_=>[]
 | f::F,l=>.Attribute (tN y (kd (l.headD default) 0)) (Ng f) (pE (l.headD default))::Ni y F l.tail
def tT (G:Ctx)(C:List Nat)(t:Expr):Expr:=.Tuple (JE G C (kids t)) (kE t) (pE t)
def Nj (G:Ctx)(C:List Nat)(t:Expr):Expr:=match C with| [i]=>tN (G.nm i) t| C=>tT G C t
noncomputable def two:List Nat->Bool| _::_::_=>true| _=>false
noncomputable def pv {A:Type}[DecidableEq A](a:A)(m:Sem A):Bool:=if h:m.ctorIdx=0 then Sem.pure.elim (motive:=λZ=>Bool) m h λb=>decide (b=a) else false
def QU{A:Type}[DecidableEq A]{m:Sem A}{a:A}(h:pv a m=true):m=pure a:=by
 cases m<;>first| exact(CW h).elim| exact AO Sem.pure (Cb h)
def QV (G:Ctx)(E:List Expr)(t e:Expr)(x:Option (List Str)):Bool:=pv x (swappedStores [.Tuple E (kE t) (pE t)] e (LB G.scope))
abbrev RS:=Bool×Stmt
abbrev RL:=Bool×List Stmt
noncomputable def q1 (a:RE)(c:Expr->Bool)(f:Expr->Stmt):RS:=(a.1&&c a.2,f a.2)
def QW (G:Ctx)(s:Stmt)(r:RE)(o i:ME):RS:=((r.1&&Gj r.2)&&((tc G false o (kd (ek s 1) 0)).1&&(tc G false i (kd (ek s 1) 1)).1),.Assign [.Subscript (tc G false o (kd (ek s 1) 0)).2 (tc G false i (kd (ek s 1) 1)).2 (pE (ek s 1))] r.2 s.pos)
def QX (s:Stmt)(r:RE)(c:Bool)(l:List Expr):RS:=((r.1&&Gj r.2)&&c,.Assign [.Tuple l (kE (ek s 1)) (pE (ek s 1))] r.2 s.pos)
def WD (G:Ctx)(s:Stmt)(r:RE):MT->RS
 | .J i=>((r.1&&Gj r.2)&&G.st i,.Assign [tN (G.nm i) (ek s 1)] r.2 s.pos)
 | .attr o f=>((r.1&&Gj r.2)&&((tc G false o (kd (ek s 1) 0)).1&&LO f),.Assign [.Attribute (tc G false o (kd (ek s 1) 0)).2 (Ng f) (pE (ek s 1))] r.2 s.pos)
 | .sub o i=>QW G s r o i
 | .HK o i=>QW G s r o i
 | .Kv o i=>QW G s r o i
 | .locs is=>QX s r (is.all G.st&&QV G (JE G is (kids (ek s 1))) (ek s 1) r.2 none) (JE G is (kids (ek s 1)))
 | .D8 is=>QX s r (is.reverse.all G.st&&QV G (JE G is (kids (ek s 1))) (ek s 1) r.2 (some (is.map G.nm))) (JE G is (kids (ek s 1)))
 | .attrs i F=>QX s r ((G.lo i&&F.all LO)&&QV G (Ni (G.nm i) F (kids (ek s 1))) (ek s 1) r.2 none) (Ni (G.nm i) F (kids (ek s 1)))
def WE (G:Ctx)(i:Nat)(s:Stmt)(e:Expr)(C:List Expr)(it:Expr):Stmt:=
 .Assign [.Name (G.nm i) {pE (ek s 1) with line:=(pE (ek s 0)).line}] (.ListComp e [⟨tN (nE (kd (ek s 0) 1)) (kd (ek s 0) 1),it,C,0⟩] (sE (ek s 0)) (pE (ek s 0))) s.pos
def WG (G:Ctx)(i:Nat)(v:Expr):Bool:=
 (G.lo i&&LP (sE v))&&((kind? (sE v) (nE (kd v 1)) .local&&JB (nE (kd v 1)))&&!((sE v).names.any λ(n,k)=>n==G.nm i&&(k==.local||k==.cell)))
noncomputable abbrev mz:Nat×Cd:=(0,.nil)
noncomputable def QY (m:ME):Nat×Cd:=ME.casesOn (motive_1:=λZ=>Nat×Cd) m (λZ=>mz) (λZ=>mz) (λZ Z=>mz) (λZ Z Z=>mz) (λZ Z Z=>mz) (λZ Z Z Z Z=>mz) (λZ Z Z=>mz) (λZ Z Z=>mz) (λZ Z Z=>mz) (λZ Z=>mz) (λZ Z=>mz) (λZ Z Z=>mz) (λZ Z Z Z=>mz) (λZ=>mz) (λo f e=>(match o with| .a=>f+1| _=>0,e))
noncomputable def Nk (m:ME):Cd:=(QY m).2
noncomputable def WH (m:ME):Bool:=Nat.beq (QY m).1 1
def WI (G:Ctx)(x:Str)(id:String)(i:Expr)(m:ME)(c:Bool):RE:=r1 (tc G false m (kd i 1)) (λy=>(EK y&&G.gE x (.ty id))&&c) λy=>cN x i [y]
def Nl (G:Ctx)(i:Expr)(m:ME)(t:Bool):FK->RE
 | .list=>r1 (tc G false m i) JC id
 | .AA=>r1 (tc G false m i) JC id
 | .range=>WI G "range" "range" i m true
 | .enum=>WI G "enumerate" "enumerate" i m t
 | .zip=>rl (Di G (Nk m) (kids i).tail) (λl=>(decide (l.length=2)&&G.gE "zip" (.ty "zip"))&&(t&&WH m)) (cN "zip" i)
noncomputable def Nm (m:MS):Bool:=MS.casesOn (motive_1:=λZ=>Bool) m (λZ=>false) (λZ Z=>false) (λZ Z=>false) (λZ Z Z Z=>false) (λZ Z Z=>false) (λZ Z Z Z=>false) (λZ Z Z=>false) (λZ Z=>false) (λZ Z Z Z=>false) (λZ=>false) false false false false true
mutual
noncomputable def ts (G:Ctx):MS->Stmt->RS
 | .expr m,s=>q1 (tc G false m (ek s 0)) Gj λe=>.Expr e s.pos
 | .A9 t m,s=>WD G s (tc G false m (ek s 0)) t
 | .compMod i m,s=>q1 (tc G false m (kd (ek s 0) 2)) (λe=>(JC e&&QO (sE (ek s 0)))&&WG G i (ek s 0))
   (WE G i s (.BinOp (tN (nE (kd (ek s 0) 1)) (kd (kd (ek s 0) 0) 0)) .Mod (.BinOp (tI 10 (kd (kd (kd (ek s 0) 0) 1) 0)) .Pow (tI 12 (kd (kd (kd (ek s 0) 0) 1) 1)) (pE (kd (kd (ek s 0) 0) 1))) (pE (kd (ek s 0) 0))) [])
 | .compLe gt i c m,s=>q1 (tc G false m (kd (ek s 0) 2)) (λe=>(JC e&&(((sE (ek s 0)).names.all λp=>p.2 !=.free||p.1==G.nm c)&&kind? (sE (ek s 0)) (G.nm c) .free))&&((decide (c<G.names.length)&&(kind? G.scope (G.nm c) .cell&&JB (G.nm c)))&&WG G i (ek s 0)))
   (WE G i s (tN (nE (kd (ek s 0) 1)) (kd (ek s 0) 0)) [.Compare (tN (nE (kd (ek s 0) 1)) (kd (kd (ek s 0) 3) 0)) [if gt then .Gt else .LtE] [tN (G.nm c) (kd (kd (ek s 0) 3) 1)] (pE (kd (ek s 0) 3))])
 | .aug i op m,s=>q1 (tc G false m (ek s 1)) (λZ=>decide (op= .add)&&(G.st i&&G.lo i)) λe=>.AugAssign (tN (G.nm i) (ek s 0)) .Add e s.pos
 | .augA i f op m,s=>q1 (tc G false m (ek s 1)) (λZ=>decide (op= .add)&&(LO f&&G.lo i)) λe=>.AugAssign (.Attribute (tN (G.nm i) (kd (ek s 0) 0)) (Ng f) (pE (ek s 0))) .Add e s.pos
 | .ite c a b,s=>((tc G true c (ek s 0)).1&&((Dk G a (sk s).2.1).1&&(Dk G b (sk s).2.2).1),.If (tc G true c (ek s 0)).2 (Dk G a (sk s).2.1).2 (Dk G b (sk s).2.2).2 s.pos)
 | .Aj c b,s=>((tc G true c (ek s 0)).1&&(Dk G b (sk s).2.1).1,.While (tc G true c (ek s 0)).2 (Dk G b (sk s).2.1).2 [] s.pos)
 | .forS k is m b,s=>((!is.isEmpty&&is.all G.st)&&((Nl G (ek s 1) m (two is) k).1&&(Dk G b (sk s).2.1).1),.For (Nj G is (ek s 0)) (Nl G (ek s 1) m (two is) k).2 (Dk G b (sk s).2.1).2 [] s.pos)
 | .ret m,s=>q1 (tc G false m (ek s 0)) (λZ=>true) λe=>.Return (some e) s.pos
 | .retN,s=>(true,.Return none s.pos)
 | .brk,s=>(true,.Break s.pos)
 | .cont,s=>(true,.Continue s.pos)
 | .fail,s=>(true,s)
 | .ghost,s=>(false,s)
noncomputable def Dk (G:Ctx):List MS->List Stmt->RL
 | [],_=>(true,[])
 | m::ms,l=>match Nm m with
  | true=>Dk G ms l
  | false=>((ts G m (l.headD default)).1&&(Dk G ms l.tail).1,(ts G m (l.headD default)).2::(Dk G ms l.tail).2)
end
def iG{M:List MS}:Dk G (m::M) l=(match Nm m with| true=>Dk G M l| false=>((ts G m (l.headD default)).1&&(Dk G M l.tail).1,(ts G m (l.headD default)).2::(Dk G M l.tail).2)):=rfl
section
variable{I:Ag}{B:Av}{K:Frag}{AI:Ctx}{G:Bw B}{fv:Nat->Value}{mn:Nat->Str}
def Ip(X:C5 I B K AI G fv mn)(h:AI.st i=true):G2 AI.scope AI.names i (AI.nm i):=
 ⟨G4 (A2 h).1,X.nd,(Bool.or_eq_true_iff.mp (A2 h).2).imp FA FA⟩
def QZ(h:AI.lo i=true):AI.names[i]?=some (AI.nm i):=G4 (A2 h).1
def K5(h:AI.lo i=true):AI.scope.names.lookup (AI.nm i)=some .local:=FA (A2 (A2 h).2).1
def WJ(h:AI.lo i=true):(AI.nm i==("__debug__":Str))=false:=DC (A2 (A2 h).2).2
def WK(X:C5 I B K AI G fv mn)(h:AI.lo i=true):G2 AI.scope AI.names i (AI.nm i):=⟨QZ h,X.nd,.inl (K5 h)⟩
theorem Qb(X:C5 I B K AI G fv mn):∀(C:List Nat) (l:List Expr),C.all AI.st=true->HP AI.scope AI.names C (JE AI C l)
 | [],_,_=>.nil
 | _::C,l,h=>.cons (Ip X (A2 h).1) (Qb X C l.tail (A2 h).2)
theorem WL(X:C5 I B K AI G fv mn):∀(C:List Nat),C.all AI.st=true->Jv AI.scope AI.names C (C.map AI.nm)
 | [],_=>.nil
 | _::C,h=>.cons (Ip X (A2 h).1) (WL X C (A2 h).2)
theorem WM:∀(f:List Nat) (l:List Expr),f.all LO=true->J6 y f (Ni y f l)
 | [],_,_=>.nil
 | _::f,l,h=>.cons (G4 (A2 h).1) (WM f l.tail (A2 h).2)
def iH(X:C5 I B K AI G fv mn)(t:Expr)(C:List Nat)(h:(!C.isEmpty&&C.all AI.st)=true):HQ B AI.scope AI.names C (Nj AI C t):=by
 cases C with
 | nil=>exact(CW (A2 h).1).elim
 | cons i l=>cases l with
  | nil=>exact el (Ip X (A2 (A2 h).2).1)
  | cons j l=>exact er (Qb X _ _ (A2 h).2)
def WN{C:List Nat}(h:two C=true):Nj AI C t=tT AI C t:=by
 cases C with
 | nil=>exact(CW h).elim
 | cons i l=>cases l with
  | nil=>exact(CW h).elim
  | cons j l=>rfl
def K6(h:Gj e=true)(E:Env):swapsWith e t l E=pure false:=by cases e<;>first| rfl| cases h
def Qc(h:Gj e=true)(E:Env):swapsWithSole [t] e l E=pure false:=by cases e<;>first| rfl| cases h
def iI(h:WH m=true):m= .AA (Nk m):=by
 cases m with
 | s o f e=>cases o<;>first| exact(CW h).elim| (cases f<;>first| rfl| exact(CW h).elim)
 | _=>exact(CW h).elim
def iJ(h:Nm m=true):m= .ghost:=by
 cases m<;>first| rfl| exact(CW h).elim
def iK{A:Type}{l:List A}(h:l.length=2):∃x y,l=[x,y]:=by
 refine HE (List.exists_cons_of_length_eq_add_one h) λx t e=>?_;refine HE (List.exists_cons_of_length_eq_add_one (Nat.succ.inj ((AO List.length e).symm.trans h))) λy u q=>?_;exact⟨x,y,e.trans (AO (x:: ·) (q.trans (AO (y:: ·) (List.eq_nil_of_length_eq_zero (Nat.succ.inj ((AO List.length q).symm.trans (Nat.succ.inj ((AO List.length e).symm.trans h))))))))⟩
variable(I B AI) in
abbrev WO(m:MS)(r:RS):Prop:=r.1=true->CL I B AI.scope AI.names AI.rank m r.2
variable(I B AI) in
abbrev WQ(m:List MS)(r:RL):Prop:=r.1=true->DK I B AI.scope AI.names AI.rank m r.2
def iL(X:C5 I B K AI G fv mn)(t:MT)(m:ME)(s:Stmt):WO I B AI (.A9 t m) (WD AI s (tc AI false m (ek s 0)) t):=λh=>by
 haveI sm:∀{c:Bool},(((tc AI false m (ek s 0)).1&&Gj (tc AI false m (ek s 0)).2)&&c)=true->S0 I B AI m (tc AI false m (ek s 0)).2:=λh=>DD X m false _ (A2 (A2 h).1).1;haveI nc:∀{c:Bool},(((tc AI false m (ek s 0)).1&&Gj (tc AI false m (ek s 0)).2)&&c)=true->Gj (tc AI false m (ek s 0)).2=true:=λh=>(A2 (A2 h).1).2;cases t with
 | J i=>exact eD (Ip X (A2 h).2) (sm h) (K6 (nc h))
 | attr o f=>exact eE X.F (G4 (A2 (A2 h).2).2) (sm h) (DD X _ false _ (A2 (A2 h).2).1) (K6 (nc h))
 | sub o i=>exact eG (sm h) (DD X _ false _ (A2 (A2 h).2).1) (DD X _ false _ (A2 (A2 h).2).2) (K6 (nc h))
 | HK o i=>exact eH X.F trivial (sm h) (DD X _ false _ (A2 (A2 h).2).1) (DD X _ false _ (A2 (A2 h).2).2) (K6 (nc h))
 | Kv o i=>exact eI X.F trivial (sm h) (DD X _ false _ (A2 (A2 h).2).1) (DD X _ false _ (A2 (A2 h).2).2) (K6 (nc h))
 | locs is=>exact eP (Qb X _ _ (A2 (A2 h).2).1) (sm h) (Qc (nc h)) (QU (A2 (A2 h).2).2)
 | D8 is=>exact eQ (xs:=is.map AI.nm) (by rw[<-List.map_reverse];exact WL X _ (A2 (A2 h).2).1) (sm h) (Qc (nc h)) (QU (A2 (A2 h).2).2) (Ak ..)
 | attrs i fs=>
  haveI l:=(A2 (A2 (A2 h).2).1).1;exact gD X.F (QZ l) (K5 l) (WJ l) (WM _ _ (A2 (A2 (A2 h).2).1).2) (sm h) (Qc (nc h)) (QU (A2 (A2 h).2).2)
def iM(X:C5 I B K AI G fv mn)(k:FK)(C:List Nat)(m:ME)(b:List MS)(i t:Expr)(p:Pos){rb:List Stmt}(H:(!C.isEmpty&&C.all AI.st)=true)(S:DK I B AI.scope AI.names AI.rank b rb)(h:(Nl AI i m (two C) k).1=true):
  CL I B AI.scope AI.names AI.rank (.forS k C m b) (.For (Nj AI C t) (Nl AI i m (two C) k).2 rb [] p):=by
 have T:=iH (B:=B) X t C H;cases k with
 | list=>exact fW T (DD X m false _ (A2 h).1) S (K3 (A2 h).2)
 | AA=>exact fX T (DD X m false _ (A2 h).1) S (K3 (A2 h).2)
 | range=>exact JD G X (A2 (A2 (A2 h).2).1).2 λq1 Q j a=>fY G q1 Q j a T (DD X m false _ (A2 h).1) (Dj (A2 (A2 (A2 h).2).1).1) S (λZ Z=>rfl) rfl
 | enum=>
  rw[WN (A2 (A2 h).2).2] at T⊢;exact JD G X (A2 (A2 (A2 h).2).1).2 λq1 Q j a=>fb G q1 Q j a T (DD X m false _ (A2 h).1) (Dj (A2 (A2 (A2 h).2).1).1) S (λZ Z=>rfl)
 | zip=>
  rw[WN (A2 (A2 (A2 h).2).2).1] at T⊢;haveI w:=Cb (A2 (A2 (A2 h).2).1).1;haveI n:=QT X (Nk m) _ (A2 h).1;refine(iI (A2 (A2 (A2 h).2).2).2).symm▸?_;refine(iK w).elim λx w=>w.elim λy w=>?_;refine(?_:CL _ _ _ _ _ _ (.For _ (cN "zip" i (Di AI (Nk m) (kids i).tail).2) _ _ _));rw[w] at n⊢;exact JD G X (A2 (A2 (A2 h).2).1).2 λq1 Q j a=>fh G q1 Q j a T n S (λZ Z=>rfl)
def Qd(X:C5 I B K AI G fv mn)(M:List MS):∀l,WQ I B AI M (Dk AI M l):=
 MS.rec_1 (motive_1:=λm=>∀s,WO I B AI m (ts AI m s)) (motive_2:=λM=>∀l,WQ I B AI M (Dk AI M l))
  (expr:=λm s h=>eC (DD X m false _ (A2 h).1) (K6 (A2 h).2))
  (A9:=λt m s=>iL X t m s)
  (compMod:=λi m s h=>
   haveI l:=(A2 (A2 (A2 h).2).2).1;haveI L:=(A2 (A2 (A2 h).2).2).2
   gZ (WK X (A2 l).1) (K5 (A2 l).1) (DD X m false _ (A2 h).1) (QQ (A2 l).2) (W9 (A2 (A2 (A2 h).2).1).2) (QS (A2 l).2) (QR (A2 l).2) (FA (A2 (A2 L).1).1) (DC (A2 (A2 L).1).2) (beq_self_eq_true _) (DC (A2 L).2) (K3 (A2 (A2 (A2 h).2).1).1))
  (compLe:=λgt i c m s h=>
   haveI a:=(A2 (A2 h).2).1;haveI z:=(A2 (A2 (A2 h).2).2).1;haveI l:=(A2 (A2 (A2 (A2 h).2).2).2).1;haveI L:=(A2 (A2 (A2 (A2 h).2).2).2).2
   gc (WK X (A2 l).1) (K5 (A2 l).1) (G4 (A2 z).1) (FA (A2 (A2 z).2).1) (DC (A2 (A2 z).2).2) (DD X m false _ (A2 h).1) (QQ (A2 l).2) (λp H e=>by
    haveI:=EE.mp (A2 (A2 a).2).1 p H;haveI this:=(e)▸this;exact CQ this) (FA (A2 (A2 a).2).2) (QS (A2 l).2) (QR (A2 l).2) (FA (A2 (A2 L).1).1) (DC (A2 (A2 L).1).2) (beq_self_eq_true _) (DC (A2 L).2) (K3 (A2 a).1))
  (aug:=λi o m s h=>(Cb (A2 (A2 h).2).1:o= .add)▸eR (Ip X (A2 (A2 (A2 h).2).2).1) (K5 (A2 (A2 (A2 h).2).2).2) (DD X m false _ (A2 h).1))
  (augA:=λi f o m s h=>
   haveI l:=(A2 (A2 (A2 h).2).2).2
   (Cb (A2 (A2 h).2).1:o= .add)▸eS X.F (QZ l) (K5 l) (WJ l) (G4 (A2 (A2 (A2 h).2).2).1) (DD X m false _ (A2 h).1))
  (ite:=λc a b n C s h=>eV (DD X c true _ (A2 h).1) (n _ (A2 (A2 h).2).1) (C _ (A2 (A2 h).2).2))
  (Aj:=λc b C s h=>eg (DD X c true _ (A2 h).1) (C _ (A2 h).2))
  (forS:=λk v m b C s h=>iM X k v m b (ek s 1) (ek s 0) s.pos (A2 h).1 (C _ (A2 (A2 h).2).2) (A2 (A2 h).2).1)
  (ret:=λm s h=>eW (DD X m false _ (A2 h).1))
  (retN:=λs h=>ec)
  (brk:=λs h=>ed)
  (cont:=λs h=>ee)
  (fail:=λs h=>ef)
  (ghost:=λs h=>by cases h)
  (nil:=λl h=>e9)
  (cons:=λm M A0 v l h=>by
   rw[iG] at h⊢;cases e:Nm m with
   | true=>
    rw[e] at h;rw[iJ e];exact eB (v l h)
   | false=>
    rw[e] at h;exact eA (A0 _ (A2 h).1) (v _ (A2 h).2)) M
end
end
section
noncomputable def iN:List Str:=["octet","low","high"]
noncomputable def JG:List MS:=[
  .forS .AA [1,2] (.k (.AA [(.AA [(.int 48),(.int 57)]),(.AA [(.int 65),(.int 90)]),(.AA [(.int 95),(.int 95)]),(.AA [(.int 97),(.int 122)])])) [
   .ite (.cmp3 .le .le (.J 1) (.J 0) (.J 2)) [
    .ret (.k (.bool true))] []],
  .ret (.k (.bool false))]
noncomputable def iO:List Str:=["before","behind","bits"]
def Nn:List MS:=[
  .A9 (.J 2) (.k (.int 0)),
  .ite (.cmp .eq (.J 0) (.k (.int (-1)))) [
   .A9 (.J 2) (.bin .AQ (.bin .AQ (.J 2) (.k (.int 4))) (.k (.int 1)))] [
   .ite (.cmp .eq (.J 0) (.k (.int 10))) [
    .A9 (.J 2) (.bin .AQ (.J 2) (.k (.int 1)))] []],
  .ite (.cmp .eq (.J 1) (.k (.int (-1)))) [
   .A9 (.J 2) (.bin .AQ (.bin .AQ (.J 2) (.k (.int 8))) (.k (.int 2)))] [
   .ite (.cmp .eq (.J 1) (.k (.int 10))) [
    .A9 (.J 2) (.bin .AQ (.J 2) (.k (.int 2)))] []],
  .ite (.eqB true (.call 0 (.cons (.J 0) .nil)) (.call 0 (.cons (.J 1) .nil))) [
   .ret (.bin .AQ (.J 2) (.k (.int 16)))] [],
  .ret (.bin .AQ (.J 2) (.k (.int 32)))]
noncomputable def iP:List Str:=["text","at","before","behind"]
def Qe:List MS:=[
  .A9 (.D8 [2,3]) (.AA (.cons (.k (.int (-1))) (.cons (.k (.int (-1))) .nil))),
  .ite (.cmp .gt (.J 1) (.k (.int 0))) [
   .A9 (.J 2) (.idx (.J 0) (.bin .sub (.J 1) (.k (.int 1))))] [],
  .ite (.cmp .lt (.J 1) (.len (.J 0))) [
   .A9 (.J 3) (.idx (.J 0) (.J 1))] [],
  .ret (.call 1 (.cons (.J 2) (.cons (.J 3) .nil)))]
noncomputable def iQ:List Str:=["bits","text","at"]
def WR:List MS:=[
  .ret (.or (.cmp .eq (.J 0) (.k (.int 0))) (.cmp .eq (.bin .Ab (.J 0) (.inv (.call 2 (.cons (.J 1) (.cons (.J 2) .nil))))) (.k (.int 0))))]
noncomputable def iR:List Str:=["self"]
def WS:List MS:=[
  .A9 (.attr (.J 0) 0) .Uu]
noncomputable def iS:List Str:=["self","low","high"]
noncomputable def WT:List MS:=[
  .A9 (.HK (.attr (.J 0) 0) (.J 1)) (.k (.bool true)),
  .ite (.cmp .lt (.J 2) (.k (.int 255))) [
   .A9 (.HK (.attr (.J 0) 0) (.bin .add (.J 2) (.k (.int 1)))) (.k (.bool true))] []]
noncomputable def iT:List Str:=["self","low","high"]
def Qf:List MS:=[
  .expr (.Ar (.J 0) 0 (.cons (.J 1) (.cons (.J 2) .nil))),
  .ite (.and (.cmp .le (.J 1) (.k (.int 90))) (.cmp .ge (.J 2) (.k (.int 65)))) [
   .expr (.Ar (.J 0) 0 (.cons (.k (.int 65)) (.cons (.k (.int 90)) .nil)))] [],
  .A9 (.D8 [1,2]) (.AA (.cons (.mx (.J 1) (.k (.int 97))) (.cons (.mn (.J 2) (.k (.int 122))) .nil))),
  .ite (.cmp .le (.J 1) (.J 2)) [
   .expr (.Ar (.J 0) 0 (.cons (.bin .sub (.J 1) (.k (.int 32))) (.cons (.bin .sub (.J 2) (.k (.int 32))) .nil)))] []]
noncomputable def iU:List Str:=["self","inst","low","high"]
def Np:List MS:=[
  .ite (.and (.cmp .eq (.attr (.J 1) 1) (.k (.int 1))) (.attr (.J 1) 6)) [
   .expr (.Ar (.J 0) 1 (.cons (.attr (.J 1) 4) (.cons (.attr (.J 1) 5) .nil)))] [
   .ite (.cmp .eq (.attr (.J 1) 1) (.k (.int 1))) [
    .expr (.Ar (.J 0) 0 (.cons (.attr (.J 1) 4) (.cons (.attr (.J 1) 5) .nil)))] [
    .ite (.cmp .eq (.attr (.J 1) 1) (.k (.int 3))) [
     .ite (.cmp .ne (.bin .Ab (.attr (.J 1) 3) (.bin .AQ (.k (.int 1)) (.k (.int 2)))) (.k (.int 0))) [
      .expr (.Ar (.J 0) 0 (.cons (.k (.int 10)) (.cons (.k (.int 10)) .nil)))] [],
     .ite (.cmp .ne (.bin .Ab (.attr (.J 1) 3) (.bin .AQ (.k (.int 16)) (.k (.int 32)))) (.k (.int 0))) [
      .forS .AA [2,3] (.k (.AA [(.AA [(.int 48),(.int 57)]),(.AA [(.int 65),(.int 90)]),(.AA [(.int 95),(.int 95)]),(.AA [(.int 97),(.int 122)])])) [
       .expr (.Ar (.J 0) 0 (.cons (.J 2) (.cons (.J 3) .nil)))]] []] []]]]
noncomputable def iV:List Str:=["self"]
def WU:List MS:=[
  .ret (.Um (.attr (.J 0) 0))]
noncomputable def iW:List Str:=["prog","found","inst"]
def WV:List MS:=[
  .ite (.FV false (.attr (.J 0) 18) (.k .none)) [
   .A9 (.J 1) (.call 5 .nil),
   .forS .list [2] (.attr (.J 0) 8) [
    .expr (.Ar (.J 1) 2 (.cons (.J 2) .nil))],
   .A9 (.attr (.J 0) 18) (.Ar (.J 1) 3 .nil)] [],
  .ret (.attr (.J 0) 18)]
noncomputable def iX:List Str:=["cuts","octet","low","high","middle"]
def WW:List MS:=[
  .A9 (.D8 [2,3]) (.AA (.cons (.k (.int 0)) (.cons (.len (.J 0)) .nil))),
  .Aj (.cmp .gt (.bin .sub (.J 3) (.J 2)) (.k (.int 1))) [
   .A9 (.J 4) (.bin .fdiv (.bin .add (.J 2) (.J 3)) (.k (.int 2))),
   .ite (.cmp .le (.idx (.J 0) (.J 4)) (.J 1)) [
    .A9 (.J 2) (.J 4)] [
    .A9 (.J 3) (.J 4)]],
  .ret (.J 2)]
noncomputable def iY:List Str:=["cuts","number"]
def WX:List MS:=[
  .ret (.idx (.J 0) (.J 1))]
noncomputable def iZ:List Str:=["cuts","number"]
def WY:List MS:=[
  .ite (.cmp .lt (.bin .add (.J 1) (.k (.int 1))) (.len (.J 0))) [
   .ret (.bin .sub (.idx (.J 0) (.bin .add (.J 1) (.k (.int 1)))) (.k (.int 1)))] [],
  .ret (.k (.int 255))]
noncomputable def ib:List Str:=["cuts"]
def WZ:List MS:=[
  .ret (.len (.J 0))]
noncomputable def HX:List Str:=["self","op","out","arg","low","high","is_folded"]
noncomputable def Qg:List MS:=[
  .A9 (.attr (.J 0) 1) (.J 1),
  .A9 (.attr (.J 0) 2) (.J 2),
  .A9 (.attr (.J 0) 3) (.J 3),
  .A9 (.attr (.J 0) 4) (.J 4),
  .A9 (.attr (.J 0) 5) (.J 5),
  .A9 (.attr (.J 0) 6) (.J 6),
  .A9 (.attr (.J 0) 7) (.k (.bool false))]
noncomputable def ie:List Str:=["inst","octet"]
def Qh:List MS:=[
  .ite (.and (.attr (.J 0) 6) (.cmp3 .le .le (.k (.int 65)) (.J 1) (.k (.int 90)))) [
   .A9 (.J 1) (.bin .add (.J 1) (.k (.int 32)))] [],
  .ret (.cmp3 .le .le (.attr (.J 0) 4) (.J 1) (.attr (.J 0) 5))]
noncomputable def ig:List Str:=["self"]
def Wa:List MS:=[
  .A9 (.attr (.J 0) 8) (.list (.cons (.call 16 (.cons (.k (.int 6)) .nil)) .nil)),
  .A9 (.attr (.J 0) 9) (.k (.int 0)),
  .A9 (.attr (.J 0) 10) (.k (.int 0)),
  .A9 (.attr (.J 0) 11) (.k (.bool false)),
  .A9 (.attr (.J 0) 12) (.k (.bool false)),
  .A9 (.attr (.J 0) 13) (.k (.bool false)),
  .A9 (.attr (.J 0) 14) (.k (.bool false)),
  .A9 (.attr (.J 0) 15) (.list .nil),
  .A9 (.attr (.J 0) 16) (.k (.bytes [])),
  .A9 (.attr (.J 0) 17) (.k (.bool false)),
  .A9 (.attr (.J 0) 18) (.k .none)]
noncomputable def ij:List Str:=["self","number","heads","flag","ids"]
def Wb:List MS:=[
  .A9 (.attr (.J 0) 19) (.J 1),
  .A9 (.attr (.J 0) 15) (.J 2),
  .A9 (.attr (.J 0) 20) (.J 3),
  .A9 (.attr (.J 0) 21) (.J 4),
  .A9 (.attr (.J 0) 22) .Ku]
noncomputable def ik:List Str:=["self"]
noncomputable def Wc:List MS:=[
  .ret (.cmp .ne (.bin .Ab (.attr (.J 0) 20) (.k (.int 128))) (.k (.int 0)))]
noncomputable def ip:List Str:=["self"]
noncomputable def Wd:List MS:=[
  .ret (.bin .shr (.attr (.J 0) 20) (.k (.int 8)))]
noncomputable def iq:List Str:=["self","octet","bits","is_word"]
def Nq:List MS:=[
  .ite (.cmp .eq (.Ar (.J 0) 5 .nil) (.k (.int 0))) [
   .ret (.k (.int 0))] [],
  .A9 (.J 2) (.bin .Ab (.attr (.J 0) 20) (.k (.int 63))),
  .ite (.cmp .eq (.J 1) (.k (.int 256))) [
   .A9 (.J 2) (.bin .AQ (.bin .AQ (.J 2) (.k (.int 2))) (.k (.int 8)))] [
   .ite (.cmp .eq (.J 1) (.k (.int 10))) [
    .A9 (.J 2) (.bin .AQ (.J 2) (.k (.int 2)))] []],
  .A9 (.J 3) (.and (.cmp .ne (.J 1) (.k (.int 256))) (.call 0 (.cons (.J 1) .nil))),
  .ite (.eqB false (.J 3) (.Ar (.J 0) 4 .nil)) [
   .ret (.bin .AQ (.J 2) (.k (.int 32)))] [],
  .ret (.bin .AQ (.J 2) (.k (.int 16)))]
noncomputable def ir:List Str:=["self"]
def We:List MS:=[
  .A9 (.attr (.J 0) 23) (.list .nil),
  .A9 (.attr (.J 0) 24) .EG]
noncomputable def iu:List Str:=["self","item"]
def Wf:List MS:=[
  .ite (.Uq (.J 1) (.attr (.J 0) 24)) [
   .ret (.k (.bool false))] [],
  .expr (.Ur (.attr (.J 0) 24) (.J 1)),
  .expr (.append (.attr (.J 0) 23) (.J 1)),
  .ret (.k (.bool true))]
noncomputable def iw:List Str:=["self"]
def Wg:List MS:=[
  .ite (.and (.Dw true (.attr (.J 0) 23) (.list .nil)) (.cmp .ne (.idx (.attr (.J 0) 23) (.neg (.k (.int 1)))) (.k (.int (-1))))) [
   .expr (.append (.attr (.J 0) 23) (.k (.int (-1))))] []]
noncomputable def ix:List Str:=["octet"]
def Wh:List MS:=[
  .ite (.cmp .eq (.J 0) (.k (.int 256))) [
   .ret (.k (.int 0))] [],
  .ite (.cmp .eq (.J 0) (.k (.int 10))) [
   .ret (.k (.int 1))] [],
  .ite (.call 0 (.cons (.J 0) .nil)) [
   .ret (.k (.int 128))] [],
  .ret (.k (.int 0))]
noncomputable def iy:List Str:=["prog","asked","inst"]
noncomputable def Wi:List MS:=[
  .A9 (.J 1) (.k (.int 0)),
  .forS .list [2] (.attr (.J 0) 8) [
   .ite (.cmp .eq (.attr (.J 2) 1) (.k (.int 3))) [
    .A9 (.J 1) (.bin .AQ (.J 1) (.attr (.J 2) 3))] []],
  .ite (.cmp .ne (.bin .Ab (.J 1) (.bin .AQ (.k (.int 16)) (.k (.int 32)))) (.k (.int 0))) [
   .A9 (.J 1) (.bin .AQ (.J 1) (.k (.int 128)))] [],
  .ret (.bin .AQ (.J 1) (.k (.int 64)))]
noncomputable def iz:List Str:=["inst","bits"]
def Wj:List MS:=[
  .ite (.cmp .eq (.attr (.J 0) 1) (.k (.int 3))) [
   .ret (.cmp .eq (.bin .Ab (.attr (.J 0) 3) (.J 1)) (.attr (.J 0) 3))] [],
  .ret (.or (.cmp .eq (.attr (.J 0) 1) (.k (.int 5))) (.cmp .eq (.attr (.J 0) 1) (.k (.int 2))))]
noncomputable def j0:List Str:=["prog","item","inst"]
def Wk:List MS:=[
  .A9 (.J 2) (.idx (.attr (.J 0) 8) (.J 1)),
  .ite (.or (.cmp .ne (.attr (.J 2) 1) (.k (.int 1))) (.or (.cmp .ne (.attr (.J 2) 4) (.k (.int 0))) (.or (.cmp .ne (.attr (.J 2) 5) (.k (.int 255))) (.cmp .ne (.attr (.J 2) 2) (.J 1))))) [
   .ret (.k (.bool false))] [],
  .Aj (.not (.attr (.idx (.attr (.J 0) 8) (.J 1)) 7)) [
   .aug 1 .add (.k (.int 1)),
   .ite (.cmp .eq (.attr (.idx (.attr (.J 0) 8) (.J 1)) 1) (.k (.int 4))) [
    .ret (.k (.bool true))] []],
  .ret (.k (.bool false))]
noncomputable def j1:List Str:=["heads","found","part","head"]
def Wl:List MS:=[
  .A9 (.D8 [1,2]) (.AA (.cons (.list .nil) (.cons (.list .nil) .nil))),
  .forS .list [3] (.J 0) [
   .ite (.cmp .ne (.J 3) (.k (.int (-1)))) [
    .expr (.append (.J 2) (.J 3)),
    .cont] [],
   .expr (.extend (.J 1) (.Jm (.J 2))),
   .expr (.append (.J 1) (.k (.int (-1)))),
   .A9 (.J 2) (.list .nil)],
  .expr (.extend (.J 1) (.Jm (.J 2))),
  .ret (.J 1)]
noncomputable def j2:List Str:=["self","prog","kind"]
def Wm:List MS:=[
  .A9 (.attr (.J 0) 25) (.J 1),
  .A9 (.attr (.J 0) 26) (.J 2),
  .A9 (.attr (.J 0) 27) (.call 30 (.cons (.J 1) .nil)),
  .A9 (.attr (.J 0) 28) (.call 10 (.cons (.J 1) .nil))]
noncomputable def j3:List Str:=["self","item","prog"]
def Wo:List MS:=[
  .A9 (.J 2) (.attr (.J 0) 25),
  .ret (.and (.cmp .eq (.attr (.J 0) 26) (.k (.int 1))) (.and (.cmp .eq (.J 1) (.attr (.J 2) 10)) (.cmp .ne (.attr (.J 2) 10) (.attr (.J 2) 9))))]
noncomputable def j4:List Str:=["self","queue","head","bits","stack","item","inst","behind"]
def LR:List MS:=[
  .A9 (.J 4) (.list (.cons (.J 2) .nil)),
  .Aj (.Dw true (.J 4) (.list .nil)) [
   .A9 (.J 5) (.pop (.J 4)),
   .ite (.cmp .eq (.J 5) (.k (.int (-1)))) [
    .expr (.Ar (.J 1) 8 .nil),
    .cont] [],
   .Aj (.and (.cmp .ne (.J 5) (.k (.int 0))) (.Ar (.J 1) 7 (.cons (.J 5) .nil))) [
    .A9 (.J 6) (.idx (.attr (.attr (.J 0) 25) 8) (.J 5)),
    .A9 (.J 7) (.ite (.attr (.J 6) 7) (.k (.int 0)) (.bin .add (.J 5) (.k (.int 1)))),
    .ite (.not (.call 31 (.cons (.J 6) (.cons (.J 3) .nil)))) [
     .A9 (.J 5) (.J 7),
     .cont] [],
    .expr (.append (.J 4) (.J 7)),
    .ite (.Ar (.J 0) 9 (.cons (.J 5) .nil)) [
     .expr (.append (.J 4) (.k (.int (-1))))] [],
    .A9 (.J 5) (.attr (.J 6) 2)]]]
noncomputable def j5:List Str:=["self","state","octet","queue","bits","head"]
def Wq:List MS:=[
  .A9 (.D8 [3,4]) (.AA (.cons (.call 26 .nil) (.cons (.Ar (.J 1) 6 (.cons (.J 2) .nil)) .nil))),
  .forS .AA [5] (.attr (.J 1) 15) [
   .ite (.cmp .eq (.J 5) (.k (.int (-1)))) [
    .expr (.Ar (.J 3) 8 .nil)] [
    .expr (.Ar (.J 0) 10 (.cons (.J 3) (.cons (.J 5) (.cons (.J 4) .nil))))]],
  .ret (.J 3)]
noncomputable def j6:List Str:=["self","queue","octet","reached","ids","bits","item","inst"]
def LS:List MS:=[
  .A9 (.D8 [3,4,5]) (.AA (.cons (.call 26 .nil) (.cons (.list .nil) (.cons (.bin .Ab (.call 29 (.cons (.J 2) .nil)) (.k (.int 63))) .nil)))),
  .forS .list [6] (.attr (.J 1) 23) [
   .ite (.cmp .eq (.J 6) (.k (.int (-1)))) [
    .ite (.Dw true (.J 4) (.list .nil)) [
     .brk] [],
    .expr (.Ar (.J 3) 8 .nil),
    .cont] [],
   .A9 (.J 7) (.idx (.attr (.attr (.J 0) 25) 8) (.J 6)),
   .ite (.cmp .eq (.attr (.J 7) 1) (.k (.int 1))) [
    .ite (.and (.cmp .ne (.J 2) (.k (.int 256))) (.call 17 (.cons (.J 7) (.cons (.J 2) .nil)))) [
     .expr (.Ar (.J 0) 10 (.cons (.J 3) (.cons (.attr (.J 7) 2) (.cons (.J 5) .nil))))] []] [
    .ite (.and (.cmp .eq (.attr (.J 7) 1) (.k (.int 4))) (.or (.cmp .eq (.J 2) (.k (.int 256))) (.not (.attr (.attr (.J 0) 25) 13)))) [
     .ite (.Kq true (.attr (.J 7) 3) (.J 4)) [
      .expr (.append (.J 4) (.attr (.J 7) 3))] [],
     .ite (.cmp .eq (.attr (.J 0) 26) (.k (.int 0))) [
      .brk] []] []]],
  .ret (.AA (.cons (.J 3) (.cons (.J 4) .nil)))]
noncomputable def j7:List Str:=["self","queue","flag","heads","needs","is_cut","item","inst"]
def JH:List MS:=[
  .A9 (.D8 [3,4,5]) (.AA (.cons (.list .nil) (.cons (.k (.int 0)) (.cons (.k (.bool false)) .nil)))),
  .forS .list [6] (.attr (.J 1) 23) [
   .ite (.and (.J 5) (.or (.cmp .eq (.J 6) (.k (.int (-1)))) (.cmp .eq (.attr (.J 0) 26) (.k (.int 0))))) [
    .brk] [],
   .ite (.cmp .eq (.J 6) (.k (.int (-1)))) [
    .ite (.and (.Dw true (.J 3) (.list .nil)) (.cmp .ne (.idx (.J 3) (.neg (.k (.int 1)))) (.k (.int (-1))))) [
     .expr (.append (.J 3) (.k (.int (-1))))] [],
    .cont] [],
   .ite (.attr (.idx (.attr (.attr (.J 0) 25) 8) (.bin .sub (.J 6) (.k (.int 1)))) 7) [
    .expr (.append (.J 3) (.J 6))] [],
   .A9 (.J 7) (.idx (.attr (.attr (.J 0) 25) 8) (.J 6)),
   .ite (.cmp .eq (.attr (.J 7) 1) (.k (.int 3))) [
    .A9 (.J 4) (.bin .AQ (.J 4) (.attr (.J 7) 3))] [
    .ite (.and (.cmp .eq (.attr (.J 7) 1) (.k (.int 4))) (.not (.attr (.attr (.J 0) 25) 13))) [
     .A9 (.J 5) (.k (.bool true))] []]],
  .ite (.and (.Dw true (.J 3) (.list .nil)) (.cmp .eq (.idx (.J 3) (.neg (.k (.int 1)))) (.k (.int (-1))))) [
   .expr (.pop (.J 3))] [],
  .ite (.cmp .eq (.J 4) (.k (.int 0))) [
   .ret (.AA (.cons (.J 3) (.cons (.bin .Ab (.J 2) (.k (.int 64))) .nil)))] [],
  .ret (.AA (.cons (.J 3) (.cons (.bin .AQ (.bin .Ab (.J 2) (.attr (.J 0) 27)) (.bin .shl (.J 4) (.k (.int 8)))) .nil)))]
noncomputable def j8:List Str:=["self","heads"]
def Wr:List MS:=[
  .ite (.cmp .eq (.attr (.J 0) 26) (.k (.int 1))) [
   .ret (.call 33 (.cons (.J 1) .nil))] [],
  .ite (.cmp .eq (.attr (.J 0) 26) (.k (.int 2))) [
   .ret (.Jm (.J 1))] [],
  .ret (.J 1)]
noncomputable def j9:List Str:=["self","queue","item"]
def Ws:List MS:=[
  .ite (.cmp .eq (.attr (.J 0) 26) (.k (.int 2))) [
   .ret (.k (.bool false))] [],
  .forS .list [2] (.attr (.J 1) 23) [
   .ite (.cmp .eq (.J 2) (.k (.int (-1)))) [
    .ret (.k (.bool false))] [],
   .ite (.call 32 (.cons (.attr (.J 0) 25) (.cons (.J 2) .nil))) [
    .ret (.k (.bool true))] [],
   .ite (.cmp .eq (.attr (.J 0) 26) (.k (.int 0))) [
    .ret (.k (.bool false))] []],
  .ret (.k (.bool false))]
noncomputable def jA:List Str:=["self","text","at","ahead"]
def Qi:List MS:=[
  .A9 (.J 3) (.ite (.attr (.attr (.J 0) 25) 11) (.J 2) (.bin .sub (.J 2) (.k (.int 1)))),
  .ite (.or (.cmp .lt (.J 3) (.k (.int 0))) (.cmp .ge (.J 3) (.len (.J 1)))) [
   .ret (.bin .AQ (.k (.int 4)) (.k (.int 1)))] [],
  .ret (.call 29 (.cons (.idx (.J 1) (.J 3)) .nil))]
noncomputable def K7:List Str:=["self","prog","kind","most_states","pace"]
def Nr:List MS:=[
  .expr (.sup 34 (.cons (.J 1) (.cons (.J 2) .nil))),
  .A9 (.attr (.J 0) 29) (.J 3),
  .A9 (.attr (.J 0) 30) (.J 4),
  .A9 (.attr (.J 0) 31) .Ut,
  .A9 (.attr (.J 0) 32) .Ku,
  .A9 (.attr (.J 0) 33) (.k (.int 0)),
  .A9 (.attr (.J 0) 34) (.call 21 (.cons (.k (.int (-1))) (.cons (.AA .nil) (.cons (.k (.int 0)) (.cons (.AA .nil) .nil))))),
  .A9 (.attr (.J 0) 35) (.call 21 (.cons (.k (.int (-2))) (.cons (.AA .nil) (.cons (.k (.int 64)) (.cons (.AA .nil) .nil)))))]
noncomputable def jB:List Str:=["self","heads","flag","ids","key"]
def Wt:List MS:=[
  .A9 (.J 4) (.AA (.cons (.J 1) (.cons (.J 2) (.cons (.J 3) .nil)))),
  .ite (.Us true (.J 4) (.attr (.J 0) 31)) [
   .ite (.cmp .ge (.len (.attr (.J 0) 31)) (.attr (.J 0) 29)) [
    .ret (.k .none)] [],
   .A9 (.Kv (.attr (.J 0) 31) (.J 4)) (.call 21 (.cons (.len (.attr (.J 0) 31)) (.cons (.J 1) (.cons (.J 2) (.cons (.J 3) .nil)))))] [],
  .ret (.EV (.attr (.J 0) 31) (.J 4))]
noncomputable def jC:List Str:=["self","queue","flag","ids","heads","told"]
def LU:List MS:=[
  .A9 (.locs [4,2]) (.Ar (.J 0) 13 (.cons (.J 1) (.cons (.J 2) .nil))),
  .ite (.and (.Dw false (.J 4) (.list .nil)) (.cmp .eq (.J 2) (.k (.int 0)))) [
   .ret (.attr (.J 0) 34)] [],
  .ite (.and (.cmp .ne (.bin .Ab (.J 2) (.k (.int 64))) (.k (.int 0))) (.Ar (.J 0) 15 (.cons (.J 1) .nil))) [
   .ret (.attr (.J 0) 35)] [],
  .A9 (.J 5) (.ite (.cmp .eq (.attr (.J 0) 26) (.k (.int 2))) (.Pb (.Jm (.J 3))) (.AA .nil)),
  .ret (.Ar (.J 0) 17 (.cons (.Pb (.Ar (.J 0) 14 (.cons (.J 4) .nil))) (.cons (.J 2) (.cons (.J 5) .nil))))]
noncomputable def jD:List Str:=["self","text","at","is_loose","flag","key","queue","found"]
def LV:List MS:=[
  .A9 (.J 4) (.Ar (.J 0) 16 (.cons (.J 1) (.cons (.J 2) .nil))),
  .A9 (.J 5) (.ite (.J 3) (.bin .add (.bin .mul (.J 4) (.k (.int 2))) (.k (.int 1))) (.bin .mul (.J 4) (.k (.int 2)))),
  .ite (.Pf true (.J 5) (.attr (.J 0) 32)) [
   .A9 (.J 6) (.call 26 .nil),
   .expr (.Ar (.J 0) 10 (.cons (.J 6) (.cons (.ite (.J 3) (.attr (.attr (.J 0) 25) 10) (.attr (.attr (.J 0) 25) 9)) (.cons (.bin .Ab (.J 4) (.k (.int 63))) .nil)))),
   .A9 (.J 7) (.Ar (.J 0) 18 (.cons (.J 6) (.cons (.J 4) (.cons (.list .nil) .nil)))),
   .ite (.FV false (.J 7) (.k .none)) [
    .ret (.k .none)] [],
   .A9 (.HK (.attr (.J 0) 32) (.J 5)) (.J 7)] [],
  .ret (.Pd (.attr (.J 0) 32) (.J 5))]
noncomputable def jE:List Str:=["self","state","octet","number","queue","ids","flag","found"]
def Nt:List MS:=[
  .ite (.or (.FV false (.J 1) (.attr (.J 0) 34)) (.FV false (.J 1) (.attr (.J 0) 35))) [
   .ret (.J 1)] [],
  .A9 (.J 3) (.ite (.cmp .eq (.J 2) (.k (.int 256))) (.k (.int 256)) (.call 11 (.cons (.attr (.J 0) 28) (.cons (.J 2) .nil)))),
  .ite (.Pf false (.J 3) (.attr (.J 1) 22)) [
   .ret (.Pd (.attr (.J 1) 22) (.J 3))] [],
  .A9 (.locs [4,5]) (.Ar (.J 0) 12 (.cons (.Ar (.J 0) 11 (.cons (.J 1) (.cons (.J 2) .nil))) (.cons (.J 2) .nil))),
  .A9 (.J 6) (.call 29 (.cons (.J 2) .nil)),
  .ite (.Dw true (.J 5) (.list .nil)) [
   .A9 (.J 6) (.bin .AQ (.J 6) (.k (.int 64)))] [],
  .A9 (.J 7) (.Ar (.J 0) 18 (.cons (.J 4) (.cons (.J 6) (.cons (.J 5) .nil)))),
  .ite (.FV true (.J 7) (.k .none)) [
   .A9 (.HK (.attr (.J 1) 22) (.J 3)) (.J 7)] [],
  .ret (.J 7)]
noncomputable def jF:List Str:=["self","octets","is_folded"]
def Wu:List MS:=[
  .A9 (.attr (.J 0) 36) (.J 1),
  .A9 (.attr (.J 0) 6) (.J 2),
  .A9 (.attr (.J 0) 37) .Ku]
noncomputable def jG:List Str:=["self","text","begin","end"]
def Wv:List MS:=[
  .ite (.Dw false (.attr (.J 0) 36) (.k (.bytes []))) [
   .ret (.J 2)] [],
  .fail,
  .fail]
noncomputable def jH:List Str:=["self","most"]
def Ww:List MS:=[
  .A9 (.attr (.J 0) 38) (.rep (.list (.cons (.k (.int 0)) .nil)) (.J 1)),
  .A9 (.attr (.J 0) 39) (.rep (.list (.cons (.k (.int 0)) .nil)) (.J 1)),
  .A9 (.attr (.J 0) 40) (.rep (.list (.cons (.k .none) .nil)) (.J 1)),
  .A9 (.attr (.J 0) 41) (.k (.int 0))]
noncomputable def jI:List Str:=["self","number","spot"]
def Wx:List MS:=[
  .A9 (.J 2) (.idx (.attr (.J 0) 39) (.J 1)),
  .ret (.and (.cmp .lt (.J 2) (.attr (.J 0) 41)) (.cmp .eq (.idx (.attr (.J 0) 38) (.J 2)) (.J 1)))]
noncomputable def jJ:List Str:=["self","number"]
noncomputable def Wy:List MS:=[
  .ite (.Ar (.J 0) 22 (.cons (.J 1) .nil)) [
   .ret (.k (.bool false))] [],
  .A9 (.sub (.attr (.J 0) 38) (.attr (.J 0) 41)) (.J 1),
  .A9 (.sub (.attr (.J 0) 39) (.J 1)) (.attr (.J 0) 41),
  .A9 (.sub (.attr (.J 0) 40) (.attr (.J 0) 41)) (.k .none),
  .augA 0 41 .add (.k (.int 1)),
  .ret (.k (.bool true))]
noncomputable def jK:List Str:=["self","number","value"]
def Wz:List MS:=[
  .A9 (.sub (.attr (.J 0) 40) (.idx (.attr (.J 0) 39) (.J 1))) (.J 2)]
noncomputable def jL:List Str:=["self"]
noncomputable def X0:List MS:=[
  .A9 (.attr (.J 0) 41) (.k (.int 0))]
noncomputable def jM:List Str:=["self","captures"]
noncomputable def X1:List MS:=[
  .A9 (.attr (.J 0) 42) (.J 1)]
noncomputable def jN:List Str:=["self","spot","at","captures"]
def X3:List MS:=[
  .ite (.or (.cmp .lt (.J 1) (.k (.int 2))) (.cmp .ge (.J 1) (.len (.attr (.J 0) 42)))) [
   .ret (.J 0)] [],
  .A9 (.J 3) (.PY (.attr (.J 0) 42)),
  .A9 (.sub (.J 3) (.J 1)) (.J 2),
  .ret (.call 59 (.cons (.J 3) .nil))]
noncomputable def jO:List Str:=["prog","text","begin","end"]
def Qj:List MS:=[
  .ite (.cmp .eq (.attr (.J 0) 9) (.k (.int 0))) [
   .ret (.k (.bool true))] [],
  .ite (.and (.attr (.J 0) 12) (.cmp .ne (.J 2) (.k (.int 0)))) [
   .ret (.k (.bool true))] [],
  .ret (.and (.attr (.J 0) 13) (.cmp .ne (.J 3) (.len (.J 1))))]
noncomputable def jP:List Str:=["self","prog","text","begin","end","anchor","width"]
def Nu:List MS:=[
  .ite (.attr (.J 1) 11) [
   .fail] [],
  .A9 (.attr (.J 0) 25) (.J 1),
  .A9 (.attr (.J 0) 8) (.attr (.J 1) 8),
  .A9 (.attr (.J 0) 43) (.J 2),
  .A9 (.attr (.J 0) 44) (.J 3),
  .A9 (.attr (.J 0) 45) (.J 4),
  .A9 (.attr (.J 0) 46) (.and (.cmp .eq (.J 5) (.k (.int 0))) (.not (.attr (.J 1) 12))),
  .A9 (.attr (.J 0) 47) (.or (.cmp .eq (.J 5) (.k (.int 2))) (.attr (.J 1) 13)),
  .A9 (.attr (.J 0) 48) (.J 6),
  .A9 (.attr (.J 0) 49) (.call 50 (.cons (.attr (.J 1) 16) (.cons (.attr (.J 1) 17) .nil)))]
noncomputable def jQ:List Str:=["self"]
noncomputable def X4:List MS:=[
  .ret (.k (.bool false))]
noncomputable def jR:List Str:=["self"]
noncomputable def X5:List MS:=[
  .ret (.k (.bool false))]
noncomputable def jS:List Str:=["self","thread"]
noncomputable def X6:List MS:=[
  .ret (.k (.bool false))]
noncomputable def jT:List Str:=["self"]
def X7:List MS:=[
  .ret (.FV true (.attr (.J 0) 52) (.k .none))]
noncomputable def jU:List Str:=["self"]
def X8:List MS:=[
  .ret (.and (.cmp .eq (.attr (.J 0) 50) (.k (.int 0))) (.FV true (.attr (.J 0) 52) (.k .none)))]
noncomputable def jV:List Str:=["self","thread"]
def XA:List MS:=[
  .ret (.and (.attr (.J 0) 51) (.and (.FV true (.attr (.J 0) 52) (.k .none)) (.cmp .lt (.idx (.attr (.J 0) 52) (.k (.int 0))) (.idx (.attr (.J 1) 42) (.k (.int 0))))))]
noncomputable def jW:List Str:=["self","inst","thread","at"]
def Qk:List MS:=[
  .ite (.and (.attr (.J 0) 51) (.FV true (.attr (.J 0) 52) (.k .none))) [
   .ite (.and (.cmp .eq (.idx (.attr (.J 0) 52) (.k (.int 0))) (.idx (.attr (.J 2) 42) (.k (.int 0)))) (.cmp .le (.J 3) (.idx (.attr (.J 0) 52) (.k (.int 1))))) [
    .ret (.k (.bool false))] []] [],
  .A9 (.attr (.J 0) 52) (.PY (.attr (.J 2) 42)),
  .A9 (.sub (.attr (.J 0) 52) (.k (.int 1))) (.J 3),
  .ret (.not (.attr (.J 0) 51))]
noncomputable def jX:List Str:=["self","inst","thread","at"]
noncomputable def XB:List MS:=[
  .A9 (.HK (.attr (.J 0) 21) (.attr (.J 1) 3)) (.k (.bool true)),
  .ret (.k (.bool false))]
noncomputable def jY:List Str:=["self","at"]
def XC:List MS:=[
  .ret (.and (.or (.attr (.J 0) 46) (.cmp .eq (.J 1) (.attr (.J 0) 44))) (.not (.Ar (.J 0) 27 .nil)))]
noncomputable def jZ:List Str:=["self","at"]
def XD:List MS:=[
  .ite (.not (.Ar (.J 0) 31 (.cons (.J 1) .nil))) [
   .ret (.neg (.k (.int 1)))] [],
  .ite (.not (.attr (.J 0) 46)) [
   .ret (.J 1)] [],
  .ret (.Ar (.attr (.J 0) 49) 21 (.cons (.attr (.J 0) 43) (.cons (.J 1) (.cons (.attr (.J 0) 45) .nil))))]
noncomputable def jb:List Str:=["self","at","captures"]
def XE:List MS:=[
  .A9 (.J 2) (.rep (.list (.cons (.neg (.k (.int 1))) .nil)) (.attr (.J 0) 48)),
  .A9 (.sub (.J 2) (.k (.int 0))) (.J 1),
  .ret (.call 59 (.cons (.J 2) .nil))]
noncomputable def jc:List Str:=["self","queue","head","at","thread","stack","number","inst"]
def Nv:List MS:=[
  .A9 (.J 5) (.list (.cons (.AA (.cons (.J 2) (.cons (.J 4) .nil))) .nil)),
  .Aj (.Dw true (.J 5) (.list .nil)) [
   .A9 (.locs [6,4]) (.pop (.J 5)),
   .ite (.not (.Ar (.J 1) 23 (.cons (.J 6) .nil))) [
    .cont] [],
   .A9 (.J 7) (.idx (.attr (.J 0) 8) (.J 6)),
   .ite (.cmp .eq (.attr (.J 7) 1) (.k (.int 6))) [
    .cont] [],
   .ite (.not (.attr (.J 7) 7)) [
    .expr (.append (.J 5) (.AA (.cons (.bin .add (.J 6) (.k (.int 1))) (.cons (.J 4) .nil))))] [],
   .ite (.or (.cmp .eq (.attr (.J 7) 1) (.k (.int 1))) (.cmp .eq (.attr (.J 7) 1) (.k (.int 4)))) [
    .expr (.Ar (.J 1) 24 (.cons (.J 6) (.cons (.J 4) .nil)))] [
    .ite (.cmp .eq (.attr (.J 7) 1) (.k (.int 2))) [
     .expr (.append (.J 5) (.AA (.cons (.attr (.J 7) 2) (.cons (.Ar (.J 4) 26 (.cons (.attr (.J 7) 3) (.cons (.J 3) .nil))) .nil))))] [
     .ite (.cmp .eq (.attr (.J 7) 1) (.k (.int 5))) [
      .expr (.append (.J 5) (.AA (.cons (.attr (.J 7) 2) (.cons (.J 4) .nil))))] [
      .ite (.and (.cmp .eq (.attr (.J 7) 1) (.k (.int 3))) (.call 3 (.cons (.attr (.J 7) 3) (.cons (.attr (.J 0) 43) (.cons (.J 3) .nil))))) [
       .expr (.append (.J 5) (.AA (.cons (.attr (.J 7) 2) (.cons (.J 4) .nil))))] []]]]]]
noncomputable def jd:List Str:=["self","now","later","at","spot","thread","inst"]
def Ql:List MS:=[
  .forS .range [4] (.attr (.J 1) 41) [
   .A9 (.J 5) (.idx (.attr (.J 1) 40) (.J 4)),
   .ite (.or (.FV false (.J 5) (.k .none)) (.Ar (.J 0) 29 (.cons (.J 5) .nil))) [
    .cont] [],
   .A9 (.J 6) (.idx (.attr (.J 0) 8) (.idx (.attr (.J 1) 38) (.J 4))),
   .ite (.cmp .eq (.attr (.J 6) 1) (.k (.int 4))) [
    .ite (.and (.or (.cmp .eq (.J 3) (.attr (.J 0) 45)) (.not (.attr (.J 0) 47))) (.Ar (.J 0) 30 (.cons (.J 6) (.cons (.J 5) (.cons (.J 3) .nil))))) [
     .retN] []] [
    .ite (.and (.cmp .lt (.J 3) (.attr (.J 0) 45)) (.call 17 (.cons (.J 6) (.cons (.idx (.attr (.J 0) 43) (.J 3)) .nil)))) [
     .expr (.Ar (.J 0) 34 (.cons (.J 2) (.cons (.attr (.J 6) 2) (.cons (.bin .add (.J 3) (.k (.int 1))) (.cons (.J 5) .nil)))))] []]]]
noncomputable def je:List Str:=["self","now","later","at"]
def LW:List MS:=[
  .ite (.call 61 (.cons (.attr (.J 0) 25) (.cons (.attr (.J 0) 43) (.cons (.attr (.J 0) 44) (.cons (.attr (.J 0) 45) .nil))))) [
   .retN] [],
  .A9 (.D8 [1,2,3]) (.AA (.cons (.call 53 (.cons (.len (.attr (.J 0) 8)) .nil)) (.cons (.call 53 (.cons (.len (.attr (.J 0) 8)) .nil)) (.cons (.attr (.J 0) 44) .nil)))),
  .Aj (.and (.cmp .le (.J 3) (.attr (.J 0) 45)) (.not (.Ar (.J 0) 28 .nil))) [
   .ite (.cmp .eq (.attr (.J 1) 41) (.k (.int 0))) [
    .A9 (.J 3) (.Ar (.J 0) 32 (.cons (.J 3) .nil)),
    .ite (.cmp .lt (.J 3) (.k (.int 0))) [
     .retN] []] [],
   .ite (.Ar (.J 0) 31 (.cons (.J 3) .nil)) [
    .expr (.Ar (.J 0) 34 (.cons (.J 1) (.cons (.attr (.attr (.J 0) 25) 9) (.cons (.J 3) (.cons (.Ar (.J 0) 33 (.cons (.J 3) .nil)) .nil)))))] [],
   .expr (.Ar (.J 0) 35 (.cons (.J 1) (.cons (.J 2) (.cons (.J 3) .nil)))),
   .A9 (.D8 [1,2]) (.AA (.cons (.J 2) (.cons (.J 1) .nil))),
   .expr (.Ar (.J 2) 25 .nil),
   .aug 3 .add (.k (.int 1))]]
noncomputable def jf:List Str:=["self","prog","text","begin","end","anchor","kind","many"]
def Qm:List MS:=[
  .expr (.sup 62 (.cons (.J 1) (.cons (.J 2) (.cons (.J 3) (.cons (.J 4) (.cons (.J 5) (.cons (.mx (.k (.int 2)) (.bin .mul (.k (.int 2)) (.J 7))) .nil))))))),
  .A9 (.attr (.J 0) 50) (.J 7),
  .A9 (.attr (.J 0) 51) (.cmp .eq (.J 6) (.k (.int 1))),
  .A9 (.attr (.J 0) 52) (.k .none)]
noncomputable def jg:List Str:=["self","prog","text","begin","end","anchor"]
def Qn:List MS:=[
  .expr (.sup 62 (.cons (.J 1) (.cons (.J 2) (.cons (.J 3) (.cons (.J 4) (.cons (.J 5) (.cons (.k (.int 1)) .nil))))))),
  .A9 (.attr (.J 0) 21) .Ku]
noncomputable def jh:List Str:=["prog","text","begin","end","anchor","kind","many","search"]
def XF:List MS:=[
  .ite (.cmp .eq (.J 5) (.k (.int 2))) [
   .fail] [],
  .A9 (.J 7) (.call 78 (.cons (.J 0) (.cons (.J 1) (.cons (.J 2) (.cons (.J 3) (.cons (.J 4) (.cons (.J 5) (.cons (.J 6) .nil)))))))),
  .expr (.Ar (.J 7) 36 .nil),
  .ite (.FV false (.attr (.J 7) 52) (.k .none)) [
   .ret (.k .none)] [],
  .ret (.N4 (.attr (.J 7) 52) (.bin .mul (.k (.int 2)) (.J 6)))]
noncomputable def ji:List Str:=["prog","text","begin","end","anchor","gathering"]
def XG:List MS:=[
  .A9 (.J 5) (.call 80 (.cons (.J 0) (.cons (.J 1) (.cons (.J 2) (.cons (.J 3) (.cons (.J 4) .nil)))))),
  .expr (.Ar (.J 5) 36 .nil),
  .ret (.Ul (.attr (.J 5) 21))]
noncomputable def jj:List Str:=[]
def XH:List MS:=[
  .ret (.list (.cons (.k (.int 1)) (.cons (.k (.int 1)) (.cons (.k (.int 1)) (.cons (.k (.int 5)) (.cons (.k (.int 2)) (.cons (.k (.int 3)) (.cons (.k (.int 4)) .nil))))))))]
noncomputable def jk:List Str:=[]
def XI:List MS:=[
  .ret (.list (.cons (.k (.int 155946)) (.cons (.k (.int 7)) (.cons (.k (.int 7)) (.cons (.k (.int 7)) (.cons (.k (.int 0)) (.cons (.k (.int 322)) (.cons (.k (.int 5)) .nil))))))))]
noncomputable def jl:List Str:=["number","bases","found","base"]
def XJ:List MS:=[
  .A9 (.J 2) (.list .nil),
  .forS .list [3] (.J 1) [
   .expr (.append (.J 2) (.bin .mod (.J 0) (.J 3))),
   .A9 (.J 0) (.bin .fdiv (.J 0) (.J 3))],
  .ret (.J 2)]
noncomputable def jm:List Str:=["cells","lists","number","cell","kind","out","least","span","bits","op","low","high","arg","row"]
def K8:List MS:=[
  .A9 (.J 1) (.list (.cons (.list .nil) (.cons (.list .nil) (.cons (.list (.cons (.AA (.cons (.k (.int 4)) (.cons (.k (.int 0)) (.cons (.k (.int 0)) (.cons (.k (.int 0)) (.cons (.k (.int 0)) (.cons (.k (.bool false)) .nil))))))) .nil)) .nil)))),
  .forS .enum [2,3] (.J 0) [
   .A9 (.locs [4,5,6,7,8]) (.call 85 (.cons (.J 3) (.cons (.list (.cons (.k (.int 8)) (.cons (.k (.int 3)) (.cons (.k (.int 256)) (.cons (.k (.int 256)) (.cons (.k (.int 63)) .nil)))))) .nil))),
   .ite (.cmp .lt (.J 4) (.k (.int 7))) [
    .A9 (.locs [9,10,11,12]) (.AA (.cons (.idx (.call 83 .nil) (.J 4)) (.cons (.k (.int 0)) (.cons (.k (.int 0)) (.cons (.k (.int 0)) .nil))))),
    .ite (.cmp .eq (.J 9) (.k (.int 1))) [
     .A9 (.D8 [10,11]) (.AA (.cons (.J 6) (.cons (.bin .add (.J 6) (.bin .mod (.J 7) (.bin .sub (.k (.int 256)) (.J 6)))) .nil)))] [
     .ite (.cmp .eq (.J 9) (.k (.int 2))) [
      .A9 (.J 12) (.bin .add (.k (.int 2)) (.bin .mod (.J 8) (.k (.int 2))))] [
      .ite (.cmp .eq (.J 9) (.k (.int 3))) [
       .A9 (.J 12) (.bin .add (.J 8) (.k (.int 1)))] [
       .ite (.cmp .eq (.J 9) (.k (.int 4))) [
        .A9 (.locs [5,12]) (.AA (.cons (.k (.int 0)) (.cons (.k (.int 1)) .nil)))] []]]],
    .A9 (.J 13) (.AA (.cons (.J 9) (.cons (.J 5) (.cons (.J 12) (.cons (.J 10) (.cons (.J 11) (.cons (.cmp .eq (.J 4) (.k (.int 2))) .nil))))))),
    .ite (.Kq true (.J 13) (.idx (.J 1) (.bin .fdiv (.J 2) (.k (.int 2))))) [
     .expr (.append (.idx (.J 1) (.bin .fdiv (.J 2) (.k (.int 2)))) (.J 13))] []] []],
  .ret (.J 1)]
noncomputable def jn:List Str:=["lists","is_looped","prog","places","at","rows","op","out","arg","low","high","is_folded"]
def FD:List MS:=[
  .A9 (.D8 [2,3,4]) (.AA (.cons (.call 19 .nil) (.cons (.list .nil) (.cons (.ite (.J 1) (.k (.int 3)) (.k (.int 1))) .nil)))),
  .A9 (.attr (.idx (.attr (.J 2) 8) (.k (.int 0))) 7) (.k (.bool true)),
  .forS .list [5] (.J 0) [
   .expr (.append (.J 3) (.J 4)),
   .aug 4 .add (.mx (.k (.int 1)) (.len (.J 5)))],
  .ite (.J 1) [
   .expr (.append (.attr (.J 2) 8) (.call 16 (.cons (.k (.int 5)) (.cons (.idx (.J 3) (.k (.int 0))) .nil)))),
   .expr (.append (.attr (.J 2) 8) (.call 16 (.cons (.k (.int 1)) (.cons (.k (.int 1)) (.cons (.k (.int 0)) (.cons (.k (.int 0)) (.cons (.k (.int 255)) .nil))))))),
   .A9 (.attr (.idx (.attr (.J 2) 8) (.k (.int 2))) 7) (.k (.bool true))] [],
  .forS .list [5] (.J 0) [
   .forS .list [6,7,8,9,10,11] (.J 5) [
    .expr (.append (.attr (.J 2) 8) (.call 16 (.cons (.J 6) (.cons (.ite (.cmp .eq (.J 6) (.k (.int 4))) (.k (.int 0)) (.idx (.J 3) (.J 7))) (.cons (.J 8) (.cons (.J 9) (.cons (.J 10) (.cons (.J 11) .nil))))))))],
   .ite (.Dw false (.J 5) (.list .nil)) [
    .expr (.append (.attr (.J 2) 8) (.call 16 (.cons (.k (.int 6)) .nil)))] [],
   .A9 (.attr (.idx (.attr (.J 2) 8) (.neg (.k (.int 1)))) 7) (.k (.bool true))],
  .A9 (.attr (.J 2) 9) (.idx (.J 3) (.k (.int 0))),
  .A9 (.attr (.J 2) 10) (.ite (.J 1) (.k (.int 1)) (.idx (.J 3) (.k (.int 0)))),
  .A9 (.attr (.J 2) 15) (.ite (.J 1) (.cat (.list (.cons (.k (.int 0)) (.cons (.k (.int 1)) .nil))) (.J 3)) (.cat (.list (.cons (.k (.int 0)) .nil)) (.J 3))),
  .A9 (.attr (.J 2) 14) (.k (.bool true)),
  .ret (.J 2)]
noncomputable def jo:List Str:=["rows","parts","spare","op","out","arg","low","high","is_folded","needed"]
def FZ:List MS:=[
  .A9 (.D8 [1,2]) (.AA (.cons (.list (.cons (.AA (.cons (.k (.int 0)) (.cons (.k (.int 255)) .nil))) .nil)) (.cons (.list .nil) .nil))),
  .forS .list [3,4,5,6,7,8] (.J 0) [
   .ite (.cmp .eq (.J 3) (.k (.int 1))) [
    .expr (.append (.J 1) (.AA (.cons (.J 6) (.cons (.J 7) .nil))))] [],
   .ite (.and (.cmp .eq (.J 3) (.k (.int 1))) (.J 8)) [
    .ite (.cmp .ge (.mn (.J 7) (.k (.int 122))) (.mx (.J 6) (.k (.int 97)))) [
     .expr (.append (.J 1) (.AA (.cons (.bin .sub (.mx (.J 6) (.k (.int 97))) (.k (.int 32))) (.cons (.bin .sub (.mn (.J 7) (.k (.int 122))) (.k (.int 32))) .nil))))] [],
    .ite (.and (.cmp .le (.J 6) (.k (.int 90))) (.cmp .ge (.J 7) (.k (.int 65)))) [
     .A9 (.J 2) (.list (.cons (.k (.int 65)) (.cons (.k (.int 91)) .nil)))] []] [],
   .ite (.and (.cmp .eq (.J 3) (.k (.int 3))) (.cmp .ne (.bin .Ab (.J 5) (.bin .AQ (.k (.int 1)) (.k (.int 2)))) (.k (.int 0)))) [
    .expr (.append (.J 1) (.AA (.cons (.k (.int 10)) (.cons (.k (.int 10)) .nil))))] [],
   .ite (.and (.cmp .eq (.J 3) (.k (.int 3))) (.cmp .ne (.bin .Ab (.J 5) (.bin .AQ (.k (.int 16)) (.k (.int 32)))) (.k (.int 0)))) [
    .expr (.extendK (.J 1) [(.AA [(.int 48),(.int 57)]),(.AA [(.int 65),(.int 90)]),(.AA [(.int 95),(.int 95)]),(.AA [(.int 97),(.int 122)])])] []],
  .A9 (.J 9) (.cat (.Un (.J 1)) (.Uo (.J 1))),
  .ret (.AA (.cons (.J 9) (.cons (.cat (.J 9) (.J 2)) .nil)))]
noncomputable def jq:List Str:=["prog","wish","text","at","is_loose","cache","state","found","signs","sign"]
def Qo:List MS:=[
  .A9 (.J 5) (.call 44 (.cons (.J 0) (.cons (.J 1) (.cons (.k (.int 40)) .nil)))),
  .A9 (.J 6) (.Ar (.J 5) 19 (.cons (.J 2) (.cons (.J 3) (.cons (.J 4) .nil)))),
  .A9 (.J 7) (.list (.cons (.AA (.cons (.attr (.J 6) 19) (.cons (.attr (.J 6) 15) (.cons (.attr (.J 6) 20) (.cons (.attr (.J 6) 21) .nil))))) .nil)),
  .A9 (.J 8) (.PZ (.Pe (.J 2) (.J 3))),
  .ite (.attr (.J 0) 11) [
   .A9 (.J 8) (.Uk (.PZ (.N4 (.J 2) (.J 3))))] [],
  .forS .list [9] (.cat (.J 8) (.list (.cons (.k (.int 256)) .nil))) [
   .A9 (.J 6) (.Ar (.J 5) 20 (.cons (.J 6) (.cons (.J 9) .nil))),
   .expr (.append (.J 7) (.AA (.cons (.attr (.J 6) 19) (.cons (.attr (.J 6) 15) (.cons (.attr (.J 6) 20) (.cons (.attr (.J 6) 21) .nil))))))],
  .ret (.J 7)]
noncomputable def jr:List Str:=["prog","wish","text","at","anchor"]
def XK:List MS:=[
  .ite (.cmp .eq (.J 1) (.k (.int 2))) [
   .ret (.call 82 (.cons (.J 0) (.cons (.J 2) (.cons (.J 3) (.cons (.len (.J 2)) (.cons (.J 4) .nil))))))] [],
  .ret (.call 81 (.cons (.J 0) (.cons (.J 2) (.cons (.J 3) (.cons (.len (.J 2)) (.cons (.J 4) (.cons (.J 1) (.cons (.k (.int 2)) .nil))))))))]
noncomputable def JI:List Str:=["script","cells","lists","kind","bound","way","bond","spot","prog","cuts","needed","allowed","number","cut","edge","spelt","text","mates","octet","digit","least","most","inside","beyond","mate","inst","one","other","wish","at","anchor","is_loose"]
def CM:List MS:=[
  .compMod 1 (.Up (.J 0) (.k (.int 7))),
  .A9 (.J 1) (.cat (.J 1) (.Pe (.call 84 .nil) (.len (.J 1)))),
  .A9 (.J 2) (.call 86 (.cons (.N4 (.J 1) (.k (.int 4))) .nil)),
  .A9 (.locs [3,4,5,6,7]) (.call 85 (.cons (.idx (.J 1) (.k (.int 4))) (.cons (.list (.cons (.k (.int 3)) (.cons (.k (.int 6)) (.cons (.k (.int 2)) (.cons (.k (.int 3)) (.cons (.k (.int 3)) .nil)))))) .nil))),
  .A9 (.J 8) (.call 87 (.cons (.J 2) (.cons (.N5 true (.J 4) (.AA (.cons (.k (.int 3)) (.cons (.k (.int 5)) .nil)))) .nil))),
  .A9 (.attrs 8 [12,13,11]) (.AA (.cons (.N5 false (.J 4) (.AA (.cons (.k (.int 3)) (.cons (.k (.int 5)) .nil)))) (.cons (.N5 false (.J 4) (.AA (.cons (.k (.int 4)) (.cons (.k (.int 5)) .nil)))) (.cons (.cmp .eq (.J 5) (.k (.int 1))) .nil)))),
  .A9 (.J 9) (.call 10 (.cons (.J 8) .nil)),
  .A9 (.locs [10,11]) (.call 88 (.cons (.cat (.cat (.idx (.J 2) (.k (.int 0))) (.idx (.J 2) (.k (.int 1)))) (.idx (.J 2) (.k (.int 2)))) .nil)),
  .ite (.or (.cmp .ne (.idx (.J 9) (.k (.int 0))) (.k (.int 0))) (.or (.Dw true (.J 9) (.Jm (.J 9))) (.or (.cmp .ne (.call 14 (.cons (.J 9) .nil)) (.len (.J 9))) (.Dw true (.call 10 (.cons (.J 8) .nil)) (.J 9))))) [
   .ret (.k (.bool false))] [],
  .forS .enum [12,13] (.J 9) [
   .ite (.or (.Kq true (.J 13) (.J 11)) (.and (.cmp .gt (.J 12) (.k (.int 0))) (.cmp .eq (.idx (.J 9) (.bin .sub (.J 12) (.k (.int 1)))) (.J 13)))) [
    .ret (.k (.bool false))] []],
  .forS .list [14] (.J 10) [
   .ite (.Kq true (.J 14) (.J 9)) [
    .ret (.k (.bool false))] []],
  .A9 (.J 15) (.call 85 (.cons (.idx (.J 1) (.k (.int 5))) (.cons (.list (.cons (.k (.int 3)) (.cons (.k (.int 256)) (.cons (.k (.int 256)) .nil)))) .nil))),
  .A9 (.D8 [16,17]) (.AA (.cons (.slFT (.J 15) (.k (.int 1)) (.bin .add (.k (.int 1)) (.idx (.J 15) (.k (.int 0))))) (.cons (.list .nil) .nil))),
  .ghost,
  .forS .zip [18,19] (.AA (.cons (.J 16) (.cons (.call 85 (.cons (.idx (.J 1) (.k (.int 6))) (.cons (.list (.cons (.k (.int 256)) (.cons (.k (.int 256)) .nil))) .nil))) .nil))) [
   .A9 (.J 12) (.call 11 (.cons (.J 9) (.cons (.J 18) .nil))),
   .A9 (.D8 [20,21]) (.AA (.cons (.call 12 (.cons (.J 9) (.cons (.J 12) .nil))) (.cons (.call 13 (.cons (.J 9) (.cons (.J 12) .nil))) .nil))),
   .compLe false 22 18 (.J 9),
   .compLe true 23 18 (.J 9),
   .ite (.or (.cmp .ne (.J 12) (.bin .sub (.len (.J 22)) (.k (.int 1)))) (.or (.cmp .ne (.J 20) (.idx (.J 22) (.neg (.k (.int 1))))) (.cmp .ne (.J 21) (.bin .sub (.idx (.cat (.J 23) (.list (.cons (.k (.int 256)) .nil))) (.k (.int 0))) (.k (.int 1)))))) [
    .ret (.k (.bool false))] [],
   .A9 (.J 24) (.bin .add (.J 20) (.bin .mod (.J 19) (.bin .add (.bin .sub (.J 21) (.J 20)) (.k (.int 1))))),
   .expr (.append (.J 17) (.J 24)),
   .forS .list [25] (.attr (.J 8) 8) [
    .ite (.and (.cmp .eq (.attr (.J 25) 1) (.k (.int 1))) (.eqB true (.call 17 (.cons (.J 25) (.cons (.J 18) .nil))) (.call 17 (.cons (.J 25) (.cons (.J 24) .nil))))) [
     .ret (.k (.bool false))] []]],
  .A9 (.D8 [26,27]) (.AA (.cons (.Pc (.J 16)) (.cons (.Pc (.J 17)) .nil))),
  .A9 (.D8 [28,29]) (.AA (.cons (.idx (.list (.cons (.k (.int 0)) (.cons (.k (.int 1)) (.cons (.k (.int 2)) .nil)))) (.J 3)) (.cons (.mn (.J 7) (.len (.J 26))) .nil))),
  .A9 (.J 30) (.idx (.list (.cons (.k (.int 0)) (.cons (.k (.int 1)) (.cons (.k (.int 2)) .nil)))) (.J 6)),
  .A9 (.J 31) (.cmp .eq (.J 30) (.k (.int 0))),
  .ite (.Dw true (.call 89 (.cons (.J 8) (.cons (.J 28) (.cons (.J 26) (.cons (.J 29) (.cons (.J 31) .nil)))))) (.call 89 (.cons (.J 8) (.cons (.J 28) (.cons (.J 27) (.cons (.J 29) (.cons (.J 31) .nil))))))) [
   .ret (.k (.bool false))] [],
  .ite (.attr (.J 8) 11) [
   .ret (.k (.bool true))] [],
  .ret (.Dw false (.call 90 (.cons (.J 8) (.cons (.J 28) (.cons (.J 26) (.cons (.J 29) (.cons (.J 30) .nil)))))) (.call 90 (.cons (.J 8) (.cons (.J 28) (.cons (.J 27) (.cons (.J 29) (.cons (.J 30) .nil)))))))]
noncomputable def Gh:List Str:=[("mark":Str),("mark_folded":Str),("mark_inst":Str),("cuts":Str),("is_behind_word":Str),("needs":Str),("bits_at":Str),("add":Str),("mark":Str),("is_loop":Str),("follow":Str),("queue_at":Str),("read":Str),("outline":Str),("ordered":Str),("is_sure":Str),("start_flag":Str),("keep":Str),("state_of":Str),("start_state":Str),("step":Str),("find":Str),("has":Str),("add":Str),("give":Str),("clear":Str),("written":Str),("is_closed":Str),("is_enough":Str),("is_beaten":Str),("take_match":Str),("may_begin":Str),("next_begin":Str),("first_thread":Str),("spread":Str),("step":Str),("run":Str)]
noncomputable def I7:List (Addr×Nat×Nat):=[(132,0,6),(132,1,7),(132,2,8),(132,3,9),(266,4,22),(266,5,23),(266,6,24),(301,7,27),(301,8,28),(479,9,35),(479,10,36),(479,11,37),(479,12,38),(479,13,39),(479,14,40),(479,15,41),(479,16,42),(479,17,45),(479,18,46),(479,19,47),(479,20,48),(540,21,51),(596,22,54),(596,23,55),(596,24,56),(596,25,57),(624,26,60),(773,27,66),(773,28,67),(773,29,68),(773,30,69),(773,31,71),(773,32,72),(773,33,73),(773,34,74),(773,35,75),(773,36,76),(801,27,63),(801,28,64),(801,29,65),(801,30,70),(801,31,71),(801,32,72),(801,33,73),(801,34,74),(801,35,75),(801,36,76)]
noncomputable def XN:List Addr:=[66,73,80,87,101,132,108,115,122,129,143,150,157,164,171,186,189,200,214,217,235,266,249,256,263,284,301,291,298,312,319,326,333,340,354,361,368,375,382,389,396,403,410,434,479,441,448,455,462,509,540,537,558,596,565,572,579,593,614,624,621,635,649,656,663,670,749,756,763,770,798,691,698,705,712,719,684,742,773,791,801,810,817,824,836,843,850,857,862,869,876,881]
noncomputable def LX:List (Str×GE):=[(("INST_RANGE":Str),GE.val (.int 1)),
 (("INST_CAPTURE":Str),GE.val (.int 2)),
 (("INST_EMPTY":Str),GE.val (.int 3)),
 (("INST_MATCH":Str),GE.val (.int 4)),
 (("INST_NOP":Str),GE.val (.int 5)),
 (("INST_FAIL":Str),GE.val (.int 6)),
 (("EMPTY_BEGIN_LINE":Str),GE.val (.int 1)),
 (("EMPTY_END_LINE":Str),GE.val (.int 2)),
 (("EMPTY_BEGIN_TEXT":Str),GE.val (.int 4)),
 (("EMPTY_END_TEXT":Str),GE.val (.int 8)),
 (("EMPTY_WORD":Str),GE.val (.int 16)),
 (("EMPTY_NO_WORD":Str),GE.val (.int 32)),
 (("EMPTY_ALL":Str),GE.val (.int 63)),
 (("UNANCHORED":Str),GE.val (.int 0)),
 (("ANCHOR_START":Str),GE.val (.int 1)),
 (("ANCHOR_BOTH":Str),GE.val (.int 2)),
 (("FIRST":Str),GE.val (.int 0)),
 (("LONGEST":Str),GE.val (.int 1)),
 (("MANY":Str),GE.val (.int 2)),
 (("EMPTIES_FEED":Str),GE.val (.int 10)),
 (("EMPTIES_NOTHING":Str),GE.val (.int (-1))),
 (("EMPTIES_WORD":Str),GE.val (.AA [(.AA [(.int 48),(.int 57)]),(.AA [(.int 65),(.int 90)]),(.AA [(.int 95),(.int 95)]),(.AA [(.int 97),(.int 122)])])),
 (("BYTEMAP_LAST":Str),GE.val (.int 255)),
 (("END":Str),GE.val (.int 256)),
 (("MARK":Str),GE.val (.int (-1))),
 (("STATE_MATCH":Str),GE.val (.int 64)),
 (("STATE_WORD":Str),GE.val (.int 128)),
 (("NEEDS_SHIFT":Str),GE.val (.int 8)),
 (("PACE":Str),GE.val (.int 10)),
 (("LINE_FEED":Str),GE.val (.int 10)),
 (("DEAD_NUMBER":Str),GE.val (.int (-1))),
 (("FULL_NUMBER":Str),GE.val (.int (-2))),
 (("_law_words":Str),GE.A1 [(.AA [(.int 48),(.int 57)]),(.AA [(.int 65),(.int 90)]),(.AA [(.int 95),(.int 95)]),(.AA [(.int 97),(.int 122)])]),
 (("is_word_octet":Str),GE.fn 0),
 (("empty_between":Str),GE.fn 1),
 (("empty_flags":Str),GE.fn 2),
 (("empty_holds":Str),GE.fn 3),
 (("ByteCuts":Str),GE.fn 5),
 (("cuts_of":Str),GE.fn 10),
 (("class_of":Str),GE.fn 11),
 (("class_octet":Str),GE.fn 12),
 (("class_end":Str),GE.fn 13),
 (("classes_many":Str),GE.fn 14),
 (("Inst":Str),GE.fn 16),
 (("inst_fits":Str),GE.fn 17),
 (("Program":Str),GE.fn 19),
 (("State":Str),GE.fn 21),
 (("StateQueue":Str),GE.fn 26),
 (("states_flag_behind":Str),GE.fn 29),
 (("states_kept":Str),GE.fn 30),
 (("states_pass":Str),GE.fn 31),
 (("states_go_on":Str),GE.fn 32),
 (("states_sorted":Str),GE.fn 33),
 (("StateCache":Str),GE.fn 44),
 (("PrefixScan":Str),GE.fn 50),
 (("SparseQueue":Str),GE.fn 53),
 (("Thread":Str),GE.fn 59),
 (("nfa_is_hopeless":Str),GE.fn 61),
 (("PikeSearch":Str),GE.fn 78),
 (("PikeIds":Str),GE.fn 80),
 (("nfa_search":Str),GE.fn 81),
 (("nfa_ids":Str),GE.fn 82),
 (("_law_ops":Str),GE.fn 83),
 (("_law_rest":Str),GE.fn 84),
 (("_law_digits":Str),GE.fn 85),
 (("_law_lists":Str),GE.fn 86),
 (("_law_laid":Str),GE.fn 87),
 (("_law_edges":Str),GE.fn 88),
 (("_law_states":Str),GE.fn 89),
 (("_law_found":Str),GE.fn 90),
 (("law":Str),GE.fn 91),
 (("len":Str),GE.bi "len"),
 (("max":Str),GE.bi "max"),
 (("min":Str),GE.bi "min"),
 (("sorted":Str),GE.bi "sorted"),
 (("list":Str),GE.ty "list"),
 (("tuple":Str),GE.ty "tuple"),
 (("bytes":Str),GE.ty "bytes"),
 (("set":Str),GE.ty "set"),
 (("range":Str),GE.ty "range"),
 (("enumerate":Str),GE.ty "enumerate"),
 (("zip":Str),GE.ty "zip")]
noncomputable def Qp (d:Data):Option FuncData:=if h:d.ctorIdx=7 then Data.func.elim (motive:=λZ=>Option FuncData) d h some else none
noncomputable def fdOf (K:Frag)(a:Addr):Option FuncData:=(K.lookup a).bind λo=>Qp o.data
noncomputable def HY (s:Scope)(n:List Str)(k:Nat):Ctx:=⟨s,n,k,LX,Gh,I7⟩
noncomputable def I9 (K:Frag)(F:Addr):Option (Scope×FuncBody):=(fdOf K F).map λf=>(f.scope,f.body)
abbrev tB (k:Nat)(n:List Str)(m:List MS)(S:Scope×List Stmt):RL:=Dk (HY S.1 n k) m S.2
def LY (k:Nat)(n:List Str)(m:List MS)(S:Scope×List Stmt):Option (Scope×FuncBody):=some (S.1,.stmts (tB k n m S).2)
end
section
open PySem.SeqAt
section
variable{I:Ag}{B:Av}{K:Frag}
def js{M:Model}{A:Around}{c:Code}{E:Value->Shared->Prop}{s:Shared}{env:Env}{o:Expr}{name:Str}{apos pos:Pos}{args:List Expr}{Q:Value->Shared->Prop}
  (hn:args.length<20) (Jp:(backTo pos (starEach args env)).all (!·.1)=true) (hp:(apos.endLine==pos.line)=true)
  (h:_root_.PySem.wpAt M A c (attributeBase o name env (eval o env)) (λov B8=>wpAny M A (getMethod ov name (do return (←importBound o env).getD true)) (λfx Bl=>wpAny M A (callWith pos fx.1 fx.2 (backTo pos (starEach args env)) []) Q E Bl) E B8) E s):
  _root_.PySem.wpAt M A c (eval (.Call (.Attribute o name apos) args [] pos) env) Q E s:=by
 haveI Pq:methodCallForm (args.length+0) (backTo pos (starEach args env)) (backToKw pos (keywordEach [] env))=true:=by
  unfold methodCallForm;refine(Jp).symm▸?_;refine(?_:(true&&true&&decide (args.length+0+0<30))=true);simp;exact A3 0x4f8000a68000441 [_] [] hn
 refine(?_:_root_.PySem.wpAt M A c (do
  let ov<-attributeBase o name env (eval o env)
  standAt apos.atName
  methodCall o name apos pos env ov (args.length+0) (backTo pos (starEach args env)) (backToKw pos (keywordEach [] env))) Q E s)
 refine _root_.PySem.wpAt_bind (_root_.PySem.ks_wpAt_mono h (λov B8 DV=>_root_.PySem.wpAt_of_wpAny (AR (wpAny_standAt ?_))) λZ Z x=>x);unfold methodCall;refine(Pq).symm▸?_;refine AR (ER (B6 DV (λfx Bl Ga=>?_) λZ Z x=>x));unfold methodCallPos;refine(hp).symm▸?_;exact AR (An Ga)
def XO{I d:Addr}:∀c,(instObj I d).data≠.cls c:=λc e=>by cases e
def jt{m:Str->Option Value}{y z:Str}{I c1:Value}{P:Prop}{R:Addr->Obj->Prop}(e:I=c1)(E:y=z)(h:(P/\m y=some I)\/∃c o,(none:Option (Str×Addr))=some (y,c)/\R c o):m z=some c1:=by
 rw[<-e,<-E];exact h.elim And.right λw=>w.elim λc w=>w.elim λo w=>nO w.1 rfl
def apart{h:Heap}{x I D d:Addr}{a:Value}{b:Option Addr}{c:ClassData}{e:Array (Option Value)}(p:h.get? x=some (instObj I d))(q:h.get? D=some ⟨a,b,.cls c,e⟩):x≠D:=by
 rintro rfl;exact XO _ (AO Obj.data (BL (p.symm.trans q)))
def ju(X:K.In h)(e:typeIn K (.ref f)=some t):∃o,h.get? f=some o/\o.cls=t:=
 (BY.1 (e:(K.lookup f).map (·.cls)=some t)).elim λo w=>⟨o,X _ _ w.1,w.2⟩
def jv{I D:Addr}{n:Str}{c:ClassData}{r:Option Value}(H:clsIn K I=some c)(h:ks_superIn K I D n=some r):alongIn K n ((c.mro.dropWhile (· !=.ref D)).drop 1)=some r:=by
 unfold ks_superIn at h;rw[H] at h;exact h
set_option tactic.hygienic true in
def jw(F:Facts B K)(G:Bw B){k k2 m H d N Qq:Nat}{oc:Value}{od:Option Addr}{f:FuncData}{I3:Array (Option Value)}{e:Expr}{l:List Expr}{p0 p1 ap p ep:Pos}{rest:List Stmt}{names ps:List Str}{n:Nat}{XQ:Cd}{ms:List MS}{fill:List AV->Option (List AV)}
  {L:Arg} {vs:Array Value} {file:Str} {tf:Tok} {XR XS:Value} {XT XU:Option Addr} {XW E3:Array (Option Value)} {O:ClassData}
  (ho:K.lookup m=some ⟨oc,od,.func f,I3⟩)
  (Qr:f.body= .stmts (.Expr (.Call (.Attribute (.Call (.Name ("super":Str) p0) [] [] p1) ("__init__":Str) ap) (e::l) [] p) ep::rest)) (Qs:codeIn K f.code f.qualname=true) (hg:f.globals=mainGlobals) (Gf:f.builtins=builtinsNs)
  (FX:∀x∈f.scope.names,x.2≠.cell) (jx:∀x∈ps,f.scope.names.lookup x=some .local) (G3:names.take ps.length=ps) (J0:names.Nodup) (Qt:HS B K f ps fill)
  (y:EJ I B f.scope names k XQ (e::l)) (hb:DK I B f.scope names k ms rest)
  (HT:∀a Q E,I.spec k a Q E->∃x more,fill a=some (.obj x::more)/\E.cls x=some d/\Dz I n (.expr (.sup k2 XQ)::ms) (.obj x::more) Q E)
  (Qu:f.scope.isCoroutine=false) (Qv:f.scope.isGenerator=false) (U:f.scope.kind= .function)
  (LZ:f.closure=[(("__class__":Str),N)]) (Qw:f.code= .ref Qq) (jy:K.lookup Qq=some ⟨XS,XT,.fields vs,XW⟩) (QH:vs[2]?=some (.str file tf)) (jz:((B.prog.main.file:Str)==file)=true)
  (k7:K.lookup N=some ⟨XR,XU,.cell (some (.ref d)),E3⟩) {XX:Value} {XY:Option Addr} {Xb:Array (Option Value)} (Xc:K.lookup d=some ⟨XX,XY,.cls O,Xb⟩) (k8:mroIn K d (.ref d)=some true) (Qx:G.mg "super"=none) (Qy:G.mb "super"=some (.type "super"))
  (Xd:f.scope.names.lookup ("super":Str)=some .globalImplicit) (Nb:f.scope.names.lookup ("__class__":Str)=some .free) (hp:(f.params.posonlyargs++f.params.args).head?=some L) (Qz:names[0]?=some L.arg) (k9:f.scope.names.lookup L.arg=some .local)
  (R0:(B.prog.main.scope.names.lookup ("super":Str)).isSome=false) (kA:nsIn K cStatics "thirdparty.any"=some none) (g:ks_superIn K d d ("__init__":Str)=some (some (.ref H))) (R1:typeIn K (.ref H)=some (.type "function")) (kB:fnIn K H=true)
  (hn:(e::l).length<20) (kC:(ap.endLine==p.line)=true) (Va:DB I B k2 (.ref H)) (Gg:k2<k):DB I B k (.ref m):=λA a vals Q E D s hr hs R va=>by
 refine C2 (HT a Q E hs) λx more hf kD hw=>?_;have X:=R.In F;refine BX (Qt s a _ vals X va hf) λV v' hlen R4=>?_;refine ks_codeAny_call_defAt (fd:=f) (binds:=ps.zip V) (by haveI:=hr.depth;exact A3 0x2421005210a140418c808041004c3 [_,_,_] [] this) (X _ _ ho) rfl (F.lim.keeps R.Ao) (codeRec_of X Qs) Qr R4 FX (λx hx=>jx _ (List.of_mem_zip hx).1) (λM ns kk=>?_) Qu Qv U;have P:Bv (callEnv f s.heap.objs.size m) f.scope ⟨s.heap.objs.size,none⟩:=(λZ zK=>zK rfl U rfl hg Gf rfl (λx cb e=>(by cases e)) (λx e=>Ad rfl (FX _ (mem_of_lookup e))));have t:=Vm (n:=n) G3 J0 R hlen v' ns kk;have r:AB B D E M:=R.grow kk;generalize R5:({s with heap:=M,toks:=s.toks+(ps.zip V).length}:Shared)=S;have eh:S.heap=M:=by rw[<-R5]
 haveI j:Bn k (A.deeper (callEnv f s.heap.objs.size m)):=hr.deeper;rw[<-eh] at r t;have T:K.In S.heap:=r.In F;refine ks_wpAt_execs_cons (ks_wpAt_Expr_any (js hn (VI y _ p) kC (ks_wpAt_super_base (env:=callEnv f s.heap.objs.size m) (attr:=("__init__":Str)) Xd Nb (by decide) rfl (T _ _ ho) rfl hp Qw (T _ _ jy) rfl QH jz R0 ?_)) (VR P) rfl);refine ks_loadName_global U Xd (loadGlobal_builtin (env:=callEnv f s.heap.objs.size m) (by refine(?_:S.heap.Ns f.globals G.mg);rw[hg];exact G.g.keeps r.Ao) Qx (by refine(?_:S.heap.Ns f.builtins G.mb);rw[Gf];exact G.b.keeps r.Ao) Qy ⟨rfl,?_⟩);refine wpAny_loadName_free U Nb (by refine(?_:f.closure.lookup _=some N);rw[LZ];rfl) ⟨_,T _ _ k7,rfl⟩ ?_;refine(id t) _ λmc kF yw yx R6 Nw=>?_;refine C2 (Nw 0 (.obj x) rfl) λya cx ey ex ez=>?_;refine HD U k9 kF (jt (AF.F6 ex) (BL (ey.symm.trans Qz)) ez) ?_;haveI hD:clsIn K d=some O:=by unfold clsIn;rw[Xc]
 haveI Y:=T _ _ Xc;haveI pa:=(r.inst x d kD).1;refine ks_wpAny_isType_cls Y rfl ⟨rfl,?_⟩;refine ks_wpAny_call_super Y rfl pa rfl XO (looks_mroIn T k8) (λh e' Xe=>?_);have DJ:AB B D E h:=r.grow Xe;haveI v:K.In h:=DJ.In F;haveI kG:x≠d:=apart pa Y;refine AJ (ju v R1) λof kH kI=>?_;haveI g:=jv hD g;refine ks_wpAny_getMethod_super e' (looks_opaque v kA) (l₀:=O.mro) (λA Q Ea s k q=>AR ((looks_clsIn v hD) A _ Ea s k (An q))) rfl v g kH kI kG (by decide) ?_;generalize eM:(h.push {cls:=.type "method",data:=.fields #[.ref H,.ref x]}:Heap)=C;haveI pM:C.get? h.objs.size=some (methodObj (.ref H) (.ref x)):=by rw[<-eM];exact ED _ rfl
 have kM:∀b o,S.heap.get? b=some o->C.get? b=some o:=λb o q=>by rw[<-eM];exact CZ _ (Xe b o q)
 have xM:Ext E D S E D {S with heap:=C,toks:=S.toks+1}:=(λZ zK=>zK (λb o q Z=>kM b o q) (λZ q=>.inl q) rfl rfl);have RM:AB B D E C:=r.grow kM;have fM:=B5.ext (s:=S) (s':={S with heap:=C,toks:=S.toks+1}) t r xM;haveI nM:¬B2 E D h.objs.size:=DJ.free (tooBig h);refine Ac (λa1 b1=>?_) (y.2.1 e l rfl (callEnv f s.heap.objs.size m));refine(a1).symm▸?_;refine callWith_of (P:=MethP K h.objs.size H (.ref x)) (by refine(?_:((false||(backTo p (starEach l _)).any (·.1))||false)=false);rw[b1 p];rfl) (keeps_M kB) (evalArgs_plain (rest:=backTo p (starEach l (callEnv f s.heap.objs.size m))) ?_);haveI LK:=y.2.2 (callEnv f s.heap.objs.size m) ⟨s.heap.objs.size,none⟩ (A.deeper (callEnv f s.heap.objs.size m)) _ _ E D {S with heap:=C,toks:=S.toks+1} p P j hw RM fM;haveI LK:=(a1)▸LK;refine B6 LK (λF7 Bl w=>?_) λZ Z z=>z.elim;refine HF w λkJ DA Gb Ga c A0 F8=>?_;haveI HR:=fM.ext RM A0;refine⟨⟨A0.Ao _ _ pM nM,c.In F⟩,wpAny_call (ks_codeAny_call_bound (A0.Ao _ _ pM nM) ?_)⟩;refine codeAny_mono (Va _ (.obj x::kJ) (.ref x::F7) _ DA Gb Bl (j.le Gg) Ga c (.cons (.obj x) F8)) (λq D0 w=>?_);cases q with
 | error e=>exact w.elim
 | ok W=>
  cases W with
  | ret cv=>
   refine w _ λu Iv VS y1 NN Jr Z=>?_;obtain ⟨_,hq⟩:=y1;have LH:=HR.ext c Jr;refine _root_.PySem.wpAt_of_wpAny (B6 (hb _ _ _ _ _ Iv VS D0 P j hq NN LH) (λW s' w=>?_) λZ Z x=>x.elim);haveI:=Vn (s:=s) (h₀:=M) (tk:=s.toks+(ps.zip V).length) kk (BO.trans (s:={s with heap:=M,toks:=s.toks+(ps.zip V).length}) (by rw[R5];exact t) LH (by rw[R5];exact((xM.trans A0).trans Jr).toS) w);cases W<;>exact this
  | _=>exact w.elim
end
section
variable{I:Ag}{B:Av}{K:Frag}
def kK(F:Facts B K)(ho:K.lookup m=some ⟨oc,od,.func f,I3⟩)(Qr:f.body= .stmts t)(Qs:codeIn K f.code f.qualname=true)(hg:f.globals=mainGlobals)(Gf:f.builtins=builtinsNs)(LZ:f.closure=[])(hz:∀L,cellsFrom L f.scope.names []=[(z,L)])(C:∀x,f.scope.names.lookup x=some .cell↔x=z)(P:f.scope.names.lookup p=some .local)(R7:names[0]?=some p)(R4:∀v:Value,bindArgs f ⟨[v],[]⟩=pure [(p,v)])(y:DK I B f.scope names k ms t)(HT:∀A Q S,I.spec k A Q S->∃a,A=[a]/\Dz I n ms [a] Q S)(Qu:f.scope.isCoroutine=false)(Qv:f.scope.isGenerator=false)(U:f.scope.kind= .function):DB I B k (.ref m):=λAa A vals Q S D s M hs R v=>by
 refine AJ (HT A Q S hs) λa A0 hw=>?_;subst A0;refine AJ (VN v) λG A0 hv=>?_;subst A0;haveI X:=R.In F;haveI kL:(callEnvC f s.heap.objs.size m).kindOf p=some .local:=P;refine codeAny_call_cells (fd:=f) (body:=t) (binds:=[(p,G)]) (by haveI:=M.depth;exact A3 0x2421005210a140418c808041004c3 [_,_,_] [] this) (X _ _ ho) rfl (F.lim.keeps R.Ao) (codeRec_of X Qs) Qr (R4 G) LZ (λx hx=>.inl (by rw[Az.mp hx];exact P)) (λB8 ic=>?_) Qu Qv U;haveI j:(callEnvC f s.heap.objs.size m).cells=[(z,s.heap.objs.size+1)]:=hz _;haveI kN:p≠z:=λe=>by
  have:=(C p).mpr e;rw[P] at this;cases this
 obtain ⟨⟨⟨N,tk,rfl⟩,ns,h,_⟩,E1,_,_⟩:=ic;haveI V:Bv (callEnvC f s.heap.objs.size m) f.scope ⟨s.heap.objs.size,some (z,s.heap.objs.size+1)⟩:=by
  refine(λZ E=>E rfl U rfl hg Gf rfl (λx c e=>?_) (λx e=>?_))
  ·cases e;exact⟨(C z).mpr rfl,by rw[j];simp[List.lookup]⟩
  ·rw[(C x).mp e];exact⟨_,rfl⟩
 haveI T:=tooBig s.heap;have O:s.heap.get? (s.heap.objs.size+1)=none:=I1 (Nat.le_succ _);haveI Y:B5 B names ⟨s.heap.objs.size,some (z,s.heap.objs.size+1)⟩ D S ([a].map some++List.replicate n none) N:=by
  refine(λZ E=>E _ ns (R.free T) (R.GV T) (λx c e=>?_) (λi u e=>?_))
  ·cases e;rcases E1 z (s.heap.objs.size+1) (by rw[j];simp[List.lookup]) with⟨ob,Jz,hd⟩
   exact⟨Nat.succ_ne_self _,R.free O,R.GV O,ob,_,Jz,hd⟩
  ·cases i with
   | zero=>
    cases e;refine⟨p,G,R7,hv.mono (BM.of h),.inl ⟨λc e=>?_,?_⟩⟩
    ·simp only[Option.some.injEq,Prod.mk.injEq] at e;exact kN e.1.symm
    ·refine(?_:bindL _ [(p,G)] _ p=some G);unfold bindL;rw[A6 kL];simp[bindL]
   | succ i=>
    exfalso;haveI e:Cz (List.replicate n none) i=some u:=e;rw[Ky] at e;rw[List.getElem?_replicate] at e;split at e<;>simp at e
 refine B6 (y (callEnvC f s.heap.objs.size m) _ _ _ _ S D {s with heap:=N,toks:=tk} V M.deeper hw (R.grow h) Y) (λW s' w=>?_) λZ Z x=>x.elim;refine w _ λg QA H d q l r f' x=>?_;have e:Ext S D s H d s':=by
  refine(λZ E=>E (λb o e n=>x.Ao b o (h b o e) n (λz=>?_) (λya z=>?_)) (λb z=>(x.own b z).imp id λw=>?_) x.gens x.os)
  ·have:b=s.heap.objs.size:=z;exact nO e (this▸T)
  ·simp only[Option.some.injEq,Prod.mk.injEq] at z;rw[<-z.2,O] at e;cases e
  ·cases e:s.heap.get? b with
   | none=>rfl
   | some o=>haveI w:N.get? b=none:=w;exact nO (h b o e) w
 cases g<;>cases W<;>first| exact l.elim| skip
 ·exact(λZ E=>E _ H d q r e .none)
 ·exact(λZ E=>E _ H d q r e .none)
 ·exact(λZ E=>E _ H d q r e .none)
 ·exact(λZ E=>E _ H d q r e l)
end
def BP (k:Nat):Value:=.ref (XN.getD k 0)
def IA (m:Nat):Str:=Gh.getD m "?"
def Am (c:Addr)(m:Nat):Option Nat:=(I7.find? λq=>q.1==c&&q.2.1==m).map (·.2.2)
def La (K:Frag):Bool:=HH.all λc=>plainGet K c ""&&hasDictIn K c&&plainOver K c&&(findIn K (.ref c) "__setattr__"==some (some (.builtin "object.__setattr__")))
def Lb (K:Frag):Bool:=HH.all λc=>(List.range CJ.length).all λi=>!EU c i||(match CJ[i]? with| some x=>findIn K (.ref c) x==some none&&takerIn K c x==some none| none=>true)
def Ld (K:Frag):Bool:=I7.all λq=>keepIn K (BP q.2.2)&&(findIn K (.ref q.1) (IA q.2.1)==some (some (BP q.2.2)))&&(typeIn K (BP q.2.2)==some (.type "function"))&&
 (List.range CJ.length).all λi=>!(CJ[i]?==some (IA q.2.1))||!EU q.1 i
noncomputable def R8:Data->Option (List Value×Nat)| .seq v n=>some (v.toList,n)| _=>none
noncomputable def Nx (f:Value->Option AV):List Value->Option (List AV)
 | []=>some []
 | v::r=>(f v).bind λa=>(Nx f r).map (a:: ·)
noncomputable def R9 (f:Addr->Option AV):Value->Option AV
 | .none=>some .none
 | .bool b=>some (.bool b)
 | .int i _=>some (.int i)
 | .ref a=>f a
 | _=>none
noncomputable def rd (K:Frag):Nat->Value->Option AV
 | 0=>R9 λZ=>none
 | n+1=>R9 λa=>(K.lookup a).bind λo=>if(o.cls==.type "tuple")=true then(R8 o.data).bind λq=>(Nx (rd K n) q.1).map .AA else none
noncomputable def kO (K:Frag):Value->Option (List AV)
 | .ref a=>(K.lookup a).bind λo=>if(o.cls==.type "list"&&(o.dict.isNone&&o.slots.isEmpty))=true then(R8 o.data).bind λq=>Nx (rd K 4) q.1 else none
 | _=>none
noncomputable def RA (K:Frag)(x:Str):Option Value:=(nsIn K mainGlobals x).bind id
noncomputable def RB (K:Frag)(x:Str)(v:Value):Bool:=(nsIn K mainGlobals x==some none)&&((bootBuiltins x==some v)&&!(x==("__name__":Str)))
def Xf (K:Frag)(x:Str):GE->Bool
 | .val v=>((RA K x).bind (rd K 4)).any (AV.beq · v)
 | .fn k=>(nsIn K mainGlobals x==some (some (BP k)))&&keepIn K (BP k)
 | .A1 l=>((RA K x).bind (kO K)).any (HV.beq · l)
 | .bi id=>RB K x (.builtin id)
 | .ty id=>RB K x (.type id)
def Ny (K:Frag):Bool:=LX.all λp=>Xf K p.1 p.2
def Xg{A:Type}{o:Option A}{p:A->Bool}(h:o.any p=true):∃x,o=some x/\p x=true:=by
 cases o with
 | none=>cases h
 | some x=>exact⟨x,rfl,h⟩
def Xh{A:Type}{c:Prop}{_:Decidable c}{o:Option A}{x:A}(h:(if c then o else none)=some x):c/\o=some x:=by
 by_cases g:c
 ·rw[A6 g] at h;exact⟨g,h⟩
 ·exact nO h (A5 g)
def Xi(h:R8 d=some q):d= .seq q.1.toArray q.2:=by
 cases d<;>first| (cases h;done)| (cases h;rw[Array.toArray_toList])
section
variable{K:Frag}{h:Heap}(X:K.In h)
def Xj(H:∀v c,f c=some v->AF h v c)(V:List Value)(l:List AV)(e:Nx f V=some l):Af h l V:=by
 induction V generalizing l with
 | nil=>cases e;exact .nil
 | cons v V C=>
  refine AJ (CP.1 e) λa E R=>?_;refine AJ (BY.1 R) λr T A=>?_;subst A;exact .cons (H _ _ E) (C r T)
def Xk(H:∀v a,f a=some v->AF h v (.ref a))(e:R9 f c=some v):AF h v c:=by
 cases c<;>first| (cases e;done)| exact H _ _ e| (cases e;constructor)
include X in
theorem Xl(n:Nat)(v:AV)(I:Value)(e:rd K n I=some v):AF h v I:=by
 induction n generalizing v I with
 | zero=>exact Xk (λZ Z e=>by cases e) e
 | succ n C=>exact Xk (λv a e=>by
  refine AJ (CP.1 e) λo U e=>?_;refine Ac (λc e=>?_) (Xh e);refine AJ (CP.1 e) λq R e=>?_;refine AJ (BY.1 e) λl H A=>?_;subst A;exact .AA ⟨o,X _ _ U,CQ c,Xi R⟩ (Xj C _ _ H)) e
end
def Xm{B:Av}{K:Frag}(X:K.In B.h0)(L:B.h0.NoLimit)(Q:La K=true)(l:Lb K=true):Facts B K:=λZ I=>I
  (X)
  (L)
  (λc h=>by
   haveI:=EE.mp Q c h;simp only[Bool.and_eq_true,beq_iff_eq] at this;exact⟨this.1.1.1,this.1.1.2,this.1.2,this.2⟩)
  (λc h i x H R=>by
   haveI:=EE.mp (EE.mp l c h) i (List.mem_range.mpr (D6.mp H).1);rw[R,H] at this;simp only[Bool.not_true,Bool.false_or,Bool.and_eq_true,beq_iff_eq] at this;exact this)
def Xn(h:Am c m=some f):(c,m,f)∈I7:=by
 unfold Am at h;rw[BY] at h;rcases h with⟨q,H,rfl⟩
 haveI:=List.find?_some H;simp only[Bool.and_eq_true,beq_iff_eq] at this;haveI R:=List.mem_of_find?_eq_some H;rcases q with⟨a,b,d⟩
 rcases this with⟨rfl,rfl⟩
 exact R
def kP{I:Ag}{K:Frag}(M:I.Ar=Am)(L:Ld K=true):Iw I K BP IA:=λZ B=>B
  (λc m f h C=>by
   haveI h:=(M)▸h;haveI:=EE.mp L _ (Xn h);simp only[Bool.and_eq_true,beq_iff_eq] at this;obtain ⟨⟨⟨a1,a2⟩,a⟩,A⟩:=this;refine⟨XN.getD f 0,rfl,a1,a2,a,λi H=>?_⟩;haveI j:=(D6.mp H).1;haveI:=EE.mp A i (List.mem_range.mpr j);simpa [H] using this)
set_option tactic.hygienic true in
def kQ{I:Ag}{B:Av}{K:Frag}(X:K.In B.h0)(A:B.h0.NoLimit)(G:Bw B)(H:∀x:Str,x≠"__name__"->G.mb x=bootBuiltins x)(N:I.Ar=Am)
  (Q:La K=true) (r:Lb K=true) (O:Ld K=true) (U:Ny K=true) (s:Scope) (n:List Str) (k:Nat) (nd:n.Nodup) (C:∀j,j<k->DB I B j (BP j)):C5 I B K (HY s n k) G BP IA:=by
 have M:∀{x:Str} {e:GE},LX.lookup x=some e->Xf K x e=true:=λ{x e} h=>by
  haveI:(x,e)∈LX:=by
   generalize LX=l at h;induction l with
   | nil=>cases h
   | cons p l C=>
    rw[Kd] at h;split at h
    ·rename_i c;cases h;rw[D7] at c;subst c;exact .head _
    ·exact .tail _ (C h)
  exact EE.mp U _ this
 have g:∀{x v},nsIn K mainGlobals x=some (some v)->G.mg x=some v:=λe=>mg_of X G.g e;haveI a:∀{x},nsIn K mainGlobals x=some none->G.mg x=none:=λe=>mg_none_of X G.g e;have P:∀{x v},RA K x=some v->nsIn K mainGlobals x=some (some v):=λe=>(CP.1 e).elim λZ w=>w.1.trans (AO some w.2);haveI W:∀{x v},RB K x v=true->G.mg x=none/\G.mb x=some v:=λ{x v} e=>⟨a (CQ (A2 e).1),(H x (beq_eq_false_iff_ne.mp (DC (A2 (A2 e).2).2))).trans (CQ (A2 (A2 e).2).1)⟩;refine(λZ F=>F (Xm X A Q r) (λx v h=>?_) (λx j h=>?_) (λx l h=>?_) (λx id h=>?_) (λx id h=>?_) (kP N O) (λm x h=>?_) (λc m f h=>?_) C nd)
 ·refine AJ (Xg (M h)) λu e H=>?_;cases AV.beq_eq H;refine AJ (CP.1 e) λD L E=>?_;exact⟨D,g (P L),Xl X 4 _ _ E⟩
 ·exact⟨g (CQ (A2 (M h)).1),(A2 (M h)).2⟩
 ·refine AJ (Xg (M h)) λu e H=>?_;cases HV.beq_eq H;refine AJ (CP.1 e) λD L E=>?_;cases D<;>first| (cases E;done)| skip
  refine AJ (CP.1 E) λo V E=>?_;refine Ac (λc E=>?_) (Xh E);refine AJ (CP.1 E) λq R E=>?_;haveI T:o={cls:=.type "list",dict:=none,data:=.seq q.1.toArray q.2,slots:= #[]}:=by
   rcases o with⟨d,t,A0,os⟩
   cases CQ (A2 c).1;cases Option.isNone_iff_eq_none.1 (A2 (A2 c).2).1;cases Xi R;cases Array.isEmpty_iff.1 (A2 (A2 c).2).2;rfl
  exact⟨_,q.1,q.2,g (P L),(X _ _ V).trans (AO some T),Xj (Xl X 4) _ _ E⟩
 ·exact W (M h)
 ·exact W (M h)
 ·refine(?_:Gh.getD m "?"=x);haveI h:Gh[m]?=some x:=h;simp[List.getD,h]
 ·haveI h:=(N)▸h;exact⟨_,Xn h,rfl,rfl⟩
def Xo{P:List Str}{V:List Value}(H:P.Nodup)(M:P.length=V.length){i:Nat}{x:Str}(h:P[i]?=some x):(P.zip V).lookup x=V[i]?:=by
 induction P generalizing V i with
 | nil=>simp at h
 | cons p P C=>
  cases V with
  | nil=>cases M
  | cons v V=>
   rw[List.nodup_cons] at H;rw[List.zip_cons_cons,Kd];cases i with
   | zero=>simp at h;subst h;simp
   | succ i=>
    haveI h:P[i]?=some x:=h;have Q:x≠p:=λe=>H.1 (e▸Bj h);rw[show (x==p)=false from beq_eq_false_iff_ne.mpr Q];exact(C H.2 (by simpa using M) h)
noncomputable def K9 (f:FuncData)(p k:List Arg)(v w:Option Arg)(d:Value):FuncData:={f with params:={f.params with posonlyargs:=p,kwonlyargs:=k,vararg:=v,kwarg:=w},defaults:=d}
def Xp(h:f.params.posonlyargs=[])(H:f.params.kwonlyargs=[])(K:f.params.vararg=none)(U:f.params.kwarg=none)(v:f.defaults=d):f=K9 f [] [] none none d:=
 (by rcases f with⟨_,_,⟨_,_,_,_,_,_,_⟩,_,_,_,_,_,_,_,_,_,_,_,_⟩;rfl:f=K9 f f.params.posonlyargs f.params.kwonlyargs f.params.vararg f.params.kwarg f.defaults).trans (by rw[h,H,K,U,v])
def Xq(h1:fd.params.posonlyargs=[])(h2:fd.params.kwonlyargs=[])(h3:fd.params.vararg=none)(h4:fd.params.kwarg=none)(h5:fd.params.args.map (·.arg)=ps)(h6:fd.defaults= .none)(hn:ps.Nodup)(hl:ps.length=vals.length):
  bindArgs fd ⟨vals,[]⟩=pure (ps.zip vals):=by
 rw[Xp h1 h2 h3 h4 h6];subst h5;generalize kR:fd.params.args.map (·.arg)=ps at hn hl;have kS:List.filter (λn=>(List.lookup n (ps.zip vals)).isNone) ps=[]:=by
  rw[List.filter_eq_nil_iff];intro x hx;refine AW (List.mem_iff_getElem?.mp hx) λi hi=>?_;haveI Gg:=(D6.mp hi).1;rw[Xo hn hl hi,Aw (by exact AK 0x908401504220a441004c3 [_,_,_] [] hl Gg)];simp
 have hb:ps.filterMap (λn=>(List.lookup n (ps.zip vals)).map (n,·))=ps.zip vals:=by
  haveI key:∀(qs:List Str) (us:List Value),qs.length=us.length->(∀(i:Nat) (x:Str),qs[i]?=some x->(ps.zip vals).lookup x=us[i]?)->qs.filterMap (λn=>(List.lookup n (ps.zip vals)).map (n,·))=qs.zip us:=by
   intro qs;induction qs with
   | nil=>intro us _ _;simp
   | cons q qs ih=>
    intro us e h;cases us with
    | nil=>cases e
    | cons u us=>
     haveI h0:=h 0 q rfl;rw[List.filterMap_cons,h0];simp only[List.getElem?_cons_zero,Option.map_some,List.zip_cons_cons]
     (refine(ih us (by simpa using e) λi x hx=>by exact(h (i+1) x (by exact hx))).symm▸?_;try (with_reducible rfl))
  exact key ps vals hl λi x hx=>Xo hn hl hx
 subst kR;refine(A5 ?_).trans ((A5 ?_).trans ?_)
 ·refine(?_:¬((decide (vals.length>(fd.params.args.map (·.arg)).length)&&true)=true));rw[C0 (by rw[hl];exact Nat.lt_irrefl _)];decide
 ·refine(?_:¬((!(List.filter (λn=>(List.lookup n ((fd.params.args.map (·.arg)).zip vals)).isNone) (List.take ((fd.params.args.map (·.arg)).length-(List.drop (0-(fd.params.args.map (·.arg)).length) ([]:List Value)).length) (fd.params.args.map (·.arg)))).isEmpty)=true));rw[List.drop_nil,List.length_nil,Nat.sub_zero,List.take_length,kS];decide
 ·generalize hz:List.zip (List.drop _ _) (List.drop _ ((none:Option (Array Value)).getD #[]).toList)=Z;obtain rfl:Z=[]:=by rw[<-hz,show ((none:Option (Array Value)).getD #[]).toList=[] from rfl,List.drop_nil,List.zip_nil_right]
  exact AO (λl=>(pure l:Sem (List (Str×Value)))) ((AO (List.filterMap _) (GR (fd.params.args.map (·.arg)))).trans hb)
noncomputable def JJ (K:Frag)(f:Addr)(n:List Str)(N:Nat):Bool:=match K.lookup f with
 | some ⟨_,_,.func fd,_⟩=>codeIn K fd.code fd.qualname&&fd.globals==mainGlobals&&fd.builtins==builtinsNs&&fd.scope.names.all (λx=>x.2 !=.cell)&&(n.take N).all (λx=>fd.scope.names.lookup x==some .local)&&
  !fd.scope.isCoroutine&&!fd.scope.isGenerator&&fd.scope.kind==.function&&decide n.Nodup&&decide (N<=n.length)&&
  fd.params.posonlyargs.isEmpty&&fd.params.kwonlyargs.isEmpty&&fd.params.vararg.isNone&&fd.params.kwarg.isNone&&(fd.params.args.map (·.arg)==n.take N)
 | _=>false
noncomputable def Le (K:Frag)(f:Addr):Bool:=match K.lookup f with
 | some ⟨_,_,.func fd,_⟩=>fd.defaults==.none
 | _=>false
noncomputable def JK (n:Nat)(a:List AV):Option (List AV):=if a.length=n then some a else none
section
variable{I:Ag}{B:Av}{K:Frag}
set_option tactic.hygienic true in
def kU(Q:f.params.posonlyargs=[])(l:f.params.kwonlyargs=[])(L:f.params.vararg=none)(U:f.params.kwarg=none)(C:f.params.args.map (·.arg)=p)(w:f.defaults= .none)(S:p.Nodup):
  HS B K f p (JK p.length):=λs a A V X v h=>by
 unfold JK at h;split at h
 ·rename_i H;cases h;exact⟨V,v,H.symm,.of_eq (Xq Q l L U C w S (by rw[v.length,H]))⟩
 ·cases h
set_option tactic.hygienic true in
def kV(h:Qp d=some v):d= .func v:=by
 by_cases e:d.ctorIdx=7
 ·exact Data.func.elim (motive:=λd=>Qp d=some v->d= .func v) d e (λw h=>AO Data.func (BL h)) h
 ·exact nO h (dif_neg e)
def kW(h:fdOf K f=some F):∃O g y,K.lookup f=some ⟨O,g,.func F,y⟩:=by
 refine AJ (CP.1 h) λo H e=>?_;cases o with
 | mk a b d l=>cases kV e;exact⟨a,b,l,H⟩
def RC(h:I9 K F=some x):∃o O f y,K.lookup F=some ⟨o,O,.func f,y⟩/\f.scope=x.1/\f.body=x.2:=
 (BY.1 h).elim λf w=>(kW w.1).elim λo q=>q.elim λO q=>q.elim λy q=>⟨o,O,f,y,q,AO Prod.fst w.2,AO Prod.snd w.2⟩
end
end
section
def AY{S:AH}{a:Addr}{l:List AV}:(S.uL a l).A1 a=some l:=A6 rfl
def BI{S:AH}{a b:Addr}{l:List AV}(h:b≠a):(S.uL a l).A1 b=S.A1 b:=by
 refine(?_:(if b=a then some l else S.A1 b)=_);rw[A5 h]
def BC(H: -1000000000<=i)(h:i<=1000000000):word i:=by unfold word;exact AK 0x398400000000000000068c02580442000000000000000346b0089dcd6500186bee6b2800c300840 [] [_] H h
def AN(h:Nat.ble n m=true):n<=m:=Nat.le_of_ble_eq_true h
def Ai{p:Prop}{_:Decidable p}{A B:Prop}(a:p->A)(b:¬p->B):(decide p=true->A)/\(decide p=false->B):=⟨λh=>a (Cb h),λh=>b (of_decide_eq_false h)⟩
def DL{p:Prop}{_:Decidable p}{A B:Prop}(a:¬p->A)(b:p->B):((!decide p)=true->A)/\((!decide p)=false->B):=⟨λh=>a λw=>by simp[w] at h,λh=>b (by simpa using h)⟩
def FE{p:Prop}{_:Decidable p}{A B:Prop}(a:¬p->A)(b:p->B):((true^^decide p)=true->A)/\((true^^decide p)=false->B):=⟨λh=>a λw=>by simp[w] at h,λh=>b (by simpa using h)⟩
def Lf{p:Prop}{_:Decidable p}{A B:Prop}(a:p->A)(b:¬p->B):((false^^decide p)=true->A)/\((false^^decide p)=false->B):=⟨λh=>a (by simpa using h),λh=>b (by simpa using h)⟩
def Nz{A B:Prop}(a:¬c=true->A)(b:c=true->B):((!c)=true->A)/\((!c)=false->B):=⟨λh=>a λw=>by simp[w] at h,λh=>b (by simpa using h)⟩
def CT{A B:Prop}(a:A):(true=true->A)/\(true=false->B):=⟨λZ=>a,λh=>by cases h⟩
def BW{A B:Prop}(b:B):(false=true->A)/\(false=false->B):=⟨λh=>(by cases h),λZ=>b⟩
def Cf{A B:Prop}(a:c=true->A)(b:¬c=true->B):(c=true->A)/\(c=false->B):=⟨a,λh=>b (by simp[h])⟩
def IB(u:List AV)(j:Nat)(x y:AV)(_:u[j]?=some x)(w:([]:List AV)[j]?=some y):CR 3 x y:=by simp at w
def JL(h:List Int):h.map AV.int=[]↔h=[]:=by simp
def BQ{A7:AH}{d e:Addr}{l:List AV}(h:A7.fresh e)(hd:A7.A1 d=some l):d≠e:=λw=>by have:=h.2.1;rw[<-w,hd] at this;cases this
def DW{i:Int}{l:List Int}{j:Nat}(h:BF i l.length=some j):BF i (l.map AV.int).length=some j:=by rw[Ak];exact h
def Gk{i:Int}{l:List Addr}{j:Nat}(h:BF i l.length=some j):BF i (l.map AV.obj).length=some j:=by rw[Ak];exact h
def Gl{l:List Addr}{j:Nat}{a:Addr}(h:l[j]?=some a):(l.map AV.obj)[j]?=some (.obj a):=by rw[Bb,h];rfl
def sp_i{I:Ag}{k:Nat}{S:List AV->PE->AH->Prop}{v:List AV}{Q:PE}{D:AH}(e:I.spec k=S)(h:S v Q D):I.spec k v Q D:=by rw[e];exact h
def BU{I:Ag}{c m f:Nat}(e:I.Ar=Am)(h:Am c m=some f):I.Ar c m=some f:=by rw[e];exact h
def O1{I:Ag}{c m:Nat}{k:Nat->Prop}(e:I.Ar=Am)(h:pO (Am c m) k):pO (I.Ar c m) k:=by rw[e];exact h
def rm{A:Type}{l:List A}{f:A->AV}(h:l.length<=1000000):room (l.map f).length:=by rw[Ak];exact h
def DX{n:Int}{o:Addr}{u:List AV}{j:Nat}{r:AV}{k:AV->Prop}{S:AH}(w:word n)(l:S.A1 o=some u)(p:BF n u.length=some j)(g:u[j]?=some r)(h:k r):word n/\pO (S.A1 o) λu=>pO (BF n u.length) λj=>pO (u[j]?) k:=⟨w,pO_i l (pO_i p (pO_i g h))⟩
def yy{A X:Type}{o:Option A}{p:A->Option X}{k:A->X->Prop}{x:A}{y:X}(e:o=some x)(f:p x=some y)(h:k x y):pO o λx=>pO (p x) (k x):=pO_i e (pO_i f h)
abbrev EY:=List AV->PE->AH->Prop
def aA (k:AV->EY):EY:=λl Q S=>match l with| v::r=>k v r Q S| []=>False
def aO (k:Addr->EY):EY:=aA λv r Q S=>pO v.BS λa=>k a r Q S
def aI (k:Int->EY):EY:=aA λv r Q S=>pO v.int? λa=>k a r Q S
def aB (k:Bool->EY):EY:=aA λv r Q S=>pO v.bool? λa=>k a r Q S
def aY (k:List Int->EY):EY:=aA λv r Q S=>pO v.N6 λa=>k a r Q S
def aT (k:List AV->EY):EY:=aA λv r Q S=>pO v.D9 λa=>k a r Q S
def aN (k:PE->AH->Prop):EY:=λl Q S=>match l with| []=>k Q S| _::_=>False
section
variable{l:List AV}{Q:PE}{σ:AH}{P:List AV->Prop}
def G5(h:aA k l Q σ)(f:∀v r,k v r Q σ->P (v::r)):P l:=by
 cases l with
 | nil=>exact h.elim
 | cons v r=>exact f v r h
def Bh(h:aO k l Q σ)(f:∀v r,k v r Q σ->P (.obj v::r)):P l:=G5 h λZ r h=>(HL h).elim λa w=>AV.G1 w.1▸f a r w.2
def BN(h:aI k l Q σ)(f:∀v r,k v r Q σ->P (.int v::r)):P l:=G5 h λZ r h=>(HL h).elim λa w=>AV.F5 w.1▸f a r w.2
def O3(h:aB k l Q σ)(f:∀v r,k v r Q σ->P (.bool v::r)):P l:=G5 h λZ r h=>(HL h).elim λa w=>AV.VB w.1▸f a r w.2
def EZ(h:aY k l Q σ)(f:∀v r,k v r Q σ->P (.bytes v::r)):P l:=G5 h λZ r h=>(HL h).elim λa w=>AV.VC w.1▸f a r w.2
def yz(h:aT k l Q σ)(f:∀v r,k v r Q σ->P (.AA v::r)):P l:=G5 h λZ r h=>(HL h).elim λa w=>AV.GZ w.1▸f a r w.2
def DM(h:aN k l Q σ)(f:k Q σ->P []):P l:=by
 cases l with
 | nil=>exact f h
 | cons _ _=>exact h.elim
def Fd{K:Int->PE->AH->Prop}(h:aI (λx=>aN λQ S=>K x Q S) l Q S)(f:∀x,K x Q S->P [.int x]):P l:=by apply BN h;clear h;intro x _ h;apply DM h;clear h;intro h;exact f x h
def Cu{K:Addr->PE->AH->Prop}(h:aO (λx=>aN λQ S=>K x Q S) l Q S)(f:∀x,K x Q S->P [.obj x]):P l:=by apply Bh h;clear h;intro x _ h;apply DM h;clear h;intro h;exact f x h
def Eb{K:Addr->Int->PE->AH->Prop}(h:aO (λx=>aI (λX=>aN λQ S=>K x X Q S)) l Q S)(f:∀x X,K x X Q S->P [.obj x,.int X]):P l:=by apply Bh h;clear h;intro x _ h;apply BN h;clear h;intro X _ h;apply DM h;clear h;intro h;exact f x X h
def RD{K:Addr->Int->Int->PE->AH->Prop}(h:aO (λx=>aI (λX=>aI (λt=>aN λQ S=>K x X t Q S))) l Q S)(f:∀x X t,K x X t Q S->P [.obj x,.int X,.int t]):P l:=by apply Bh h;clear h;intro x _ h;apply BN h;clear h;intro X _ h;apply BN h;clear h;intro t _ h;apply DM h;clear h;intro h;exact f x X t h
def KA{K:Addr->Addr->PE->AH->Prop}(h:aO (λx=>aO (λX=>aN λQ S=>K x X Q S)) l Q S)(f:∀x X,K x X Q S->P [.obj x,.obj X]):P l:=by apply Bh h;clear h;intro x _ h;apply Bh h;clear h;intro X _ h;apply DM h;clear h;intro h;exact f x X h
def Lh{K:Addr->Addr->Int->PE->AH->Prop}(h:aO (λx=>aO (λX=>aI (λt=>aN λQ S=>K x X t Q S))) l Q S)(f:∀x X t,K x X t Q S->P [.obj x,.obj X,.int t]):P l:=by apply Bh h;clear h;intro x _ h;apply Bh h;clear h;intro X _ h;apply BN h;clear h;intro t _ h;apply DM h;clear h;intro h;exact f x X t h
def Xr{K:Addr->Addr->Int->Int->PE->AH->Prop}(h:aO (λx=>aO (λX=>aI (λt=>aI (λA=>aN λQ S=>K x X t A Q S)))) l Q S)(f:∀x X t A,K x X t A Q S->P [.obj x,.obj X,.int t,.int A]):P l:=by apply Bh h;clear h;intro x _ h;apply Bh h;clear h;intro X _ h;apply BN h;clear h;intro t _ h;apply BN h;clear h;intro A _ h;apply DM h;clear h;intro h;exact f x X t A h
def RF{K:Addr->Addr->Addr->Int->PE->AH->Prop}(h:aO (λx=>aO (λX=>aO (λt=>aI (λA=>aN λQ S=>K x X t A Q S)))) l Q S)(f:∀x X t A,K x X t A Q S->P [.obj x,.obj X,.obj t,.int A]):P l:=by apply Bh h;clear h;intro x _ h;apply Bh h;clear h;intro X _ h;apply Bh h;clear h;intro t _ h;apply BN h;clear h;intro A _ h;apply DM h;clear h;intro h;exact f x X t A h
def Xs{K:Addr->List Int->Int->Int->PE->AH->Prop}(h:aO (λx=>aY (λX=>aI (λt=>aI (λA=>aN λQ S=>K x X t A Q S)))) l Q S)(f:∀x X t A,K x X t A Q S->P [.obj x,.bytes X,.int t,.int A]):P l:=by apply Bh h;clear h;intro x _ h;apply EZ h;clear h;intro X _ h;apply BN h;clear h;intro t _ h;apply BN h;clear h;intro A _ h;apply DM h;clear h;intro h;exact f x X t A h
end
def fe{S:AH}{a:Addr}{f:Nat}{v:AV}:(S.uF a f v).A4 a f=some v:=A6 ⟨rfl,rfl⟩
def fn{S:AH}{a b:Addr}{f g:Nat}{v:AV}{x:Option AV}(h:Nat.beq g f=false)(k:S.A4 b g=x):(S.uF a f v).A4 b g=x:=(A5 λw=>Nat.ne_of_beq_eq_false h w.2).trans k
def fo{S:AH}{a b:Addr}{f g:Nat}{v:AV}{x:Option AV}(h:b≠a)(k:S.A4 b g=x):(S.uF a f v).A4 b g=x:=(A5 λw=>h w.1).trans k
def lo{S:AH}{a b:Addr}{l:List AV}{x:Option (List AV)}(h:b≠a)(k:S.A1 b=x):(S.uL a l).A1 b=x:=(A5 h).trans k
def ce{S:AH}{a c:Addr}:(S.uN a c).cls a=some c:=A6 rfl
noncomputable def O4 (m:MS):List MS:=MS.casesOn (motive_1:=λZ=>List MS) m (λZ=>[]) (λZ Z=>[]) (λZ Z=>[]) (λZ Z Z Z=>[]) (λZ Z Z=>[]) (λZ Z Z Z=>[]) (λZ a Z=>a) (λZ b=>b) (λZ Z Z b=>b) (λZ=>[]) [] [] [] [] []
noncomputable def RG (m:MS):List MS:=MS.casesOn (motive_1:=λZ=>List MS) m (λZ=>[]) (λZ Z=>[]) (λZ Z=>[]) (λZ Z Z Z=>[]) (λZ Z Z=>[]) (λZ Z Z Z=>[]) (λZ Z b=>b) (λZ Z=>[]) (λZ Z Z Z=>[]) (λZ=>[]) [] [] [] [] []
noncomputable abbrev Bc (l:List MS)(i:Nat):List MS:=O4 (l.getD i .brk)
def kX{I:Ag}{C:List Nat}{v:List AV}{K:AE->AH->Prop}{l l':AE}{S:AH}(e:F4 l C.reverse v.reverse=some l')(h:K l' S):N7 I (.D8 C) (.AA v) K l S:=(pO_i e h:pO (F4 l C.reverse v.reverse) λl'=>K l' S)
def kY{I:Ag}{C:List Nat}{v:List AV}{K:AE->AH->Prop}{l l':AE}{S:AH}(e:F4 l C v=some l')(h:K l' S):N7 I (.locs C) (.AA v) K l S:=(pO_i e h:pO (F4 l C v) λl'=>K l' S)
def Li(h:AP I r Q l S):Cs (AP I r Q) Q .next l S:=h
def FF(h:Q .next l S):Cs (AP I [] Q) Q .next l S:=h
def Xu{I:Ag}{i:Nat}{v:AV}{K:AE->AH->Prop}{l:AE}{S:AH}(h:K (AX l i v) S):N7 I (.J i) v K l S:=h
def kZ{c:Type}{o:Option c}{A B:Prop}(a:∀v,o=some v->A)(b:o=none->B):((false^^o.isSome)=true->A)/\((false^^o.isSome)=false->B):=by
 cases o with
 | none=>exact⟨λh=>(by cases h),λZ=>b rfl⟩
 | some v=>exact⟨λZ=>a v rfl,λh=>by cases h⟩
def Xv{c:Type}{o:Option c}{A B:Prop}(a:o=none->A)(b:∀v,o=some v->B):((true^^o.isSome)=true->A)/\((true^^o.isSome)=false->B):=by
 cases o with
 | none=>exact⟨λZ=>a rfl,λh=>by cases h⟩
 | some v=>exact⟨λh=>(by cases h),λZ=>b v rfl⟩
def DY{C:List Nat}(A0:Nat->AE->AH->Prop)(F:A0 0 l S)(o:∀i l S,A0 i l S->G l S)(step:∀i v l S (K:Fl->AE->AH->Prop),i<V.length->A0 i l S->V[i]?=some v->(∀l S,A0 (i+1) l S->K .next l S)->(∀l S,A0 (i+1) l S->K .cont l S)->(∀l S,Q .next l S->K .brk l S)->(∀v l S,Q (.ret v) l S->K (.ret v) l S)->
   ∃L,bindTo l C v=some L/\B K L S)(f:∀l S,A0 V.length l S->Q .next l S):forA G C B Q V l S:=by
 suffices H:∀(n:Nat) (W:List AV) (l:AE) (S:AH),V.drop n=W->n<=V.length->A0 n l S->forA G C B Q W l S from H 0 V l S rfl (Nat.zero_le _) F
 intro n W;induction W generalizing n with
 | nil=>
  intro l S e T h;haveI:n=V.length:=by haveI:=AO List.length e;simp at this;exact AK 0x504200a021005400240108482 [_,_] [] T this
  subst this;exact⟨o _ _ _ h,f _ _ h⟩
 | cons w W Y=>
  intro l S e T h;have j:n<V.length:=by haveI:=AO List.length e;simp at this;exact A3 0x1210802a404020a401084c3 [_,_,_] [] this
  haveI r:V[n]?=some w:=by
   haveI:=AO (λl=>l[0]?) e;simpa using this
  haveI E:V.drop (n+1)=W:=by
   haveI:=AO List.tail e;simpa using this
  haveI nx:∀l S,A0 (n+1) l S->forA G C B Q W l S:=λl S q=>Y (n+1) l S E (A3 0x2021404000a42100482 [_,_] [] j) q;refine AJ (step n w l S (Kz (forA G C B Q W) Q) j h r nx nx (λZ Z q=>q) (λZ Z Z q=>q)) λL p X=>?_;exact⟨o _ _ _ h,pO_i p X⟩
def z3(s:MS)(r:List MS)(Q:Fl->AE->AH->Prop)(l:AE)(S:AH):AP I (s::r) Q l S=N8 I s (Cs (AP I r Q) Q) l S:=rfl
def z4(Q:Fl->AE->AH->Prop)(l:AE)(S:AH):AP I [] Q l S=Q .next l S:=rfl
def z6(l:List AV)(S:AH):HM .AA (.AA l) S=some (l,λZ Z=>True):=rfl
def Er(h:S.A1 a=some l):HM .list (.obj a) S=some (l,λZ E=>E.A1 a=some l):=by refine(?_:(S.A1 a).map _=_);rw[h];rfl
def Xw(h:S.A1 a=some l):HM .enum (.obj a) S=some (l.zipIdx.map λp=>.AA [.int p.2,p.1],λZ E=>E.A1 a=some l):=by refine(?_:(S.A1 a).map _=_);rw[h];rfl
def ka(h:S.A1 a=some l)(H:S.A1 b=some m):HM .zip (.AA [.obj a,.obj b]) S=some ((l.zip m).map λp=>.AA [p.1,p.2],λJ E=>E.A1 a=some l/\E.A1 b=some m/\Dy J/\E.tf):=by refine(?_:(S.A1 a).bind _=_);rw[h];refine(?_:(S.A1 b).map _=_);rw[H];rfl
def ke(n:Int)(S:AH):HM .range (.int n) S=some ((List.range n.toNat).map (λ(i:Nat)=>AV.int (i:Int)),λZ Z=>word n):=rfl
abbrev Vc(I:Ag)(n N:Nat)(m:List MS)(O:List AV->PE->AH->Prop):Prop:=∀a Q S,O a Q S->a.length=n/\Dz I N m a Q S
end
local macro_rules
  | `(tactic| exists $t) => `(tactic| first | refine (Mine.pO_i $t ?_ :) | refine (Mine.sp_i $t ?_ :) | refine And.intro $t ?_)
local macro_rules
  | `(tactic| exists $t, $ts,*) => `(tactic| (exists $t; exists $ts,*))
section
noncomputable abbrev AQ (a b:Int):Int:=Builtin.bitOr a b
noncomputable abbrev Ab (a b:Int):Int:=Builtin.bitAnd a b
noncomputable def Bi (o:Int):Bool:=(decide (48<=o)&&decide (o<=57))||(decide (65<=o)&&decide (o<=90))||(decide (95<=o)&&decide (o<=95))||(decide (97<=o)&&decide (o<=122))
noncomputable def Xx (B V c1 c w:Bool):Int:=
 let x:=bif B then AQ (AQ 0 4) 1 else bif V then AQ 0 1 else 0
 let y:=bif c1 then AQ (AQ x 8) 2 else bif c then AQ x 2 else x
 bif w then AQ y 32 else AQ y 16
noncomputable def Lj (b c:Int):Int:=Xx (decide (b= -1)) (decide (b=10)) (decide (c= -1)) (decide (c=10)) (decide (Bi b=Bi c))
def RH:List AV->PE->AH->Prop:=
 aI λo=>aN λQ S=>Q (.bool (Bi o)) S
def RI:List AV->PE->AH->Prop:=
 aI λb=>aI λc=>aN λQ S=>Q (.int (Lj b c)) S
noncomputable def Gm (t:List Int)(a:Int):Int:=if 0<a then t.getD (a-1).toNat 0 else-1
noncomputable def G6 (t:List Int)(a:Int):Int:=if a<t.length then t.getD a.toNat 0 else-1
def RJ:List AV->PE->AH->Prop:=
 aY λt=>aI λa=>aN λQ S=>room t.length/\0<=a/\a<=t.length/\Q (.int (Lj (Gm t a) (G6 t a))) S
noncomputable def Gn (B:Int)(t:List Int)(a:Int):Bool:=decide (B=0)||decide (Ab B (-(Lj (Gm t a) (G6 t a))-1)=0)
def RK:List AV->PE->AH->Prop:=
 aI λB=>aY λt=>aI λa=>aN λQ S=>room t.length/\0<=a/\a<=t.length/\Q (.bool (Gn B t a)) S
def RN:List AV->PE->AH->Prop:=
 aO λc=>aI λn=>aN λQ S=>∃I:List Int,S.A1 c=some (I.map .int)/\room I.length/\0<=n/\n<I.length/\Q (.int (I.getD n.toNat 0)) S
noncomputable def FG (c:List Int)(n:Int):Int:=if n+1<c.length then c.getD (n+1).toNat 0-1 else 255
def RO:List AV->PE->AH->Prop:=
 aO λc=>aI λn=>aN λQ S=>∃I:List Int,S.A1 c=some (I.map .int)/\room I.length/\0<=n/\n<I.length/\Q (.int (FG I n)) S
def RP:List AV->PE->AH->Prop:=
 aO λc=>aN λQ S=>∃I:List Int,S.A1 c=some (I.map .int)/\room I.length/\Q (.int I.length) S
structure Ap where
 op:Int
 out:Int
 arg:Int
 B1:Int
 Ax:Int
 fold:Bool
 last:Bool
def kf(S:AH)(a:Addr)(R:Ap)(l:Prop):Prop:=
 (S.cls a=some 189)->(S.A4 a 1=some (.int R.op))->(S.A4 a 2=some (.int R.out))->(S.A4 a 3=some (.int R.arg))->(S.A4 a 4=some (.int R.B1))->(S.A4 a 5=some (.int R.Ax))->(S.A4 a 6=some (.bool R.fold))->(S.A4 a 7=some (.bool R.last))->l
def Bs(S:AH)(a:Addr)(R:Ap):Prop:=Ch (kf S a R)
section
variable(zh:Bs σ a R)
def Bs.cls:=zh _ λz Z Z Z Z Z Z Z=>z
def Bs.op:=zh _ λZ z Z Z Z Z Z Z=>z
def Bs.out:=zh _ λZ Z z Z Z Z Z Z=>z
def Bs.arg:=zh _ λZ Z Z z Z Z Z Z=>z
def Bs.B1:=zh _ λZ Z Z Z z Z Z Z=>z
def Bs.Ax:=zh _ λZ Z Z Z Z z Z Z=>z
def Bs.fold:=zh _ λZ Z Z Z Z Z z Z=>z
def Bs.last:=zh _ λZ Z Z Z Z Z Z z=>z
end
noncomputable def O5 (R:Ap)(o:Int):Int:=if R.fold=true/\65<=o/\o<=90 then o+32 else o
noncomputable def G7 (R:Ap)(o:Int):Bool:=decide (R.B1<=O5 R o)&&decide (O5 R o<=R.Ax)
def RQ:List AV->PE->AH->Prop:=
 aO λi=>aI λo=>aN λQ S=>∃R,Bs S i R/\Q (.bool (G7 R o)) S
noncomputable def Bx (o:Int):Int:=if o=256 then 0 else if o=10 then 1 else if Bi o then 128 else 0
def RR:List AV->PE->AH->Prop:=
 aI λo=>aN λQ S=>Q (.int (Bx o)) S
@[simp] theorem IC{A:Type}(x:A)(k:A->Prop):pO (some x) k=k x:=rfl
def z8{A:Type}{o:Option A}{k:A->Prop}{x:A}(e:o=some x)(h:k x):pO o k:=by subst e;exact h
def z9{A:Type}{o:Option A}{k:A->Prop}(h:pO o k):∃x,o=some x/\k x:=by rw[Pg] at h;exact h
def zA{A:Type}(x:A)(k:A->Prop):pO (some x) k=k x:=by rw[Pg];exact propext ⟨λ⟨y,e,h⟩=>by cases e;exact h,λh=>⟨x,rfl,h⟩⟩
def zB(a:Option AV)(l:AE):Cz (a::l) 0=a:=by cases a<;>rfl
@[simp] theorem zC{A:Type}(k:A->Prop):pO none k=False:=rfl
@[simp] theorem zD(i:Int):(AV.int i).int?=some i:=rfl
@[simp] theorem zE(i:Bool):(AV.bool i).bool?=some i:=rfl
@[simp] theorem zG(i:Addr):(AV.obj i).BS=some i:=rfl
@[simp] theorem zH(i:List AV):(AV.AA i).D9=some i:=rfl
@[simp] theorem zI(i:List Int):(AV.bytes i).N6=some i:=rfl
@[simp] theorem zL(a:Option AV)(l:AE):Cz (a::l) 0=a:=rfl
@[simp] theorem zM(a:Option AV)(l:AE)(n:Nat):Cz (a::l) (n+1)=Cz l n:=rfl
@[simp] theorem zN(a:Option AV)(l:AE)(v:AV):AX (a::l) 0 v=some v::l:=rfl
@[simp] theorem zO(a:Option AV)(l:AE)(n:Nat)(v:AV):AX (a::l) (n+1) v=a::AX l n v:=rfl
def getD_some{t:List Int}{i:Nat}(h:i<t.length):t[i]?=some (t.getD i 0):=by
 rw[List.getD,Aw h];rfl
def JM{t:List Int}{a:Int}(H:0<=a)(h:a<t.length):t[a.toNat]?=some (t.getD a.toNat 0):=getD_some (AK 0x24012804b008006140100841 [_] [_] H h)
def Lk{t:List Int}{a:Int}(H:0<=a)(h:a<t.length):(t.map AV.int)[a.toNat]?=some (.int (t.getD a.toNat 0)):=by rw[Bb,JM H h];rfl
def Dm{i:Int}{n:Nat}(H:0<=i)(h:i<n):BF i n=some i.toNat:=by unfold BF;rw[A6 H,A6 h]
abbrev Tb:=List (Nat×EY)
noncomputable def ID (I:Ag):Tb->Prop
 | []=>True
 | p::l=>I.spec p.1=p.2/\ID I l
def kg(I:Ag)(l:Tb)(m:Prop):Prop:=
 (I.Ar=Am)->(ID I l)->m
def AU(I:Ag)(l:Tb):Prop:=Ch (kg I l)
section
variable(zh:AU I l9)
def AU.m:=zh _ λz Z=>z
def AU.l:=zh _ λZ z=>z
end
def ID.g(S:ID I l)(h:(l.find? λp=>Nat.beq p.1 k)=some p):I.spec p.1=p.2:=by
 induction l with
 | nil=>cases h
 | cons q l C=>
  rw[List.find?_cons] at h;cases e:Nat.beq q.1 k with
  | true=>rw[e] at h;cases h;exact S.1
  | false=>rw[e] at h;exact C S.2 h
def AU.g{I:Ag}{l:Tb}(S:AU I l)(k:Nat){O:EY}(h:(l.find? λp=>Nat.beq p.1 k)=some (k,O)):I.spec k=O:=S.l.g h
theorem ID.dr:∀{l:Tb} (n:Nat),ID I l->ID I (l.drop n)
 | _,0,h=>h
 | [],_+1,h=>h
 | _::_,n+1,h=>ID.dr n h.2
def AU.dr{I:Ag}{l:Tb}(S:AU I l)(n:Nat):AU I (l.drop n):=(λZ B=>B S.m (S.l.dr n))
noncomputable def JN:Tb:=(0,RH)::(1,RI)::(2,RJ)::(3,RK)::(12,RN)::(13,RO)::(14,RP)::(17,RQ)::(29,RR)::[]
def O6{a b o:Int}{A B D:Prop}(t:(decide (a<=o)&&decide (o<=b))=true->A)(f:(decide (a<=o)&&decide (o<=b))=false->B):(decide (a<=o)=true->(decide (o<=b)=true->A)/\(decide (o<=b)=false->B))/\(decide (a<=o)=false->(false=true->D)/\(false=false->B)):=
 ⟨λh=>⟨λk=>t (by rw[h,k];rfl),λk=>f (by rw[h,k];rfl)⟩,λh=>BW (f (by rw[h];rfl))⟩
noncomputable def eX (B V:Bool):Int:=bif B then AQ (AQ 0 4) 1 else bif V then AQ 0 1 else 0
noncomputable def eY (x:Int)(c1 c:Bool):Int:=bif c1 then AQ (AQ x 8) 2 else bif c then AQ x 2 else x
noncomputable def eZ (y:Int)(w:Bool):Int:=bif w then AQ y 32 else AQ y 16
section
variable{I:Ag}(S:AU I JN)
include S
theorem kh:Vc I 1 2 JG RH:=λA Q S h=>by
 apply Fd h;clear h;intro o h;refine⟨rfl,?_⟩;haveI h:Q (.bool (Bi o)) S:=h;unfold Bi at h;refine A8 trivial (O6 (λw=>?_) λW=>A8 trivial (O6 (λw=>?_) λv=>A8 trivial (O6 (λw=>?_) λa=>A8 trivial (O6 (λw=>?_) λX=>A8 trivial ?_))))
 ·rw[w] at h;exact h
 ·rw[W,w] at h;exact h
 ·rw[W,v,w] at h;exact h
 ·rw[W,v,a,w] at h;exact h
 ·rw[W,v,a,X] at h;exact h
def RT{b c y:Int}{Q:PE}{σ:AH}(h:Q (.int (eZ y (decide (Bi b=Bi c)))) σ):AP I (Nn.drop 3) (BB Q) [some (.int b),some (.int c),some (.int y)] σ:=
 sp_i (S.g 0 rfl) (sp_i (S.g 0 rfl) (FE (λg=>A8 trivial (by rw[C0 g] at h;exact h)) λg=>A8 trivial (by rw[Bg g] at h;exact h)))
def RU{b c x:Int}{Q:PE}{D:AH}(h:Q (.int (eZ (eY x (decide (c= -1)) (decide (c=10))) (decide (Bi b=Bi c)))) D):AP I (Nn.drop 2) (BB Q) [some (.int b),some (.int c),some (.int x)] D:=by
 refine Ai (λg=>A8 trivial (A8 trivial ?_)) λg=>Ai (λG=>A8 trivial ?_) λG=>?_
 ·rw[Bg g] at h;exact RT S h
 ·rw[C0 g,Bg G] at h;exact RT S h
 ·rw[C0 g,C0 G] at h;exact RT S h
def ki:Vc I 2 1 Nn RI:=λa Q D h=>by
 apply BN h;clear h;intro b _ h;apply Fd h;clear h;intro c h;refine⟨rfl,?_⟩;haveI h:Q (.int (eZ (eY (eX (decide (b= -1)) (decide (b=10))) (decide (c= -1)) (decide (c=10))) (decide (Bi b=Bi c)))) D:=h;refine Ai (λg=>A8 trivial (A8 trivial ?_)) λg=>Ai (λG=>A8 trivial ?_) λG=>?_
 ·rw[Bg g] at h;exact RU S h
 ·rw[C0 g,Bg G] at h;exact RU S h
 ·rw[C0 g,C0 G] at h;exact RU S h
def Xy{t:List Int}{a x:Int}{Q:PE}{D:AH}(H:room t.length)(l:0<=a)(K:word a)(h:Q (.int (Lj x (G6 t a))) D):AP I (Qe.drop 2) (BB Q) [some (.bytes t),some (.int a),some (.int x),some (.int (-1))] D:=by
 unfold G6 at h;refine A8 H (Ai (λg=>?_) λg=>?_)
 ·rw[A6 g] at h;exists K,H,l,JM l g;exact sp_i (S.g 1 rfl) (h)
 ·rw[A5 g] at h;exact sp_i (S.g 1 rfl) (h)
def kj:Vc I 2 2 Qe RJ:=λA Q D h=>by
 apply EZ h;clear h;intro t _ h;apply Fd h;clear h;intro a h;refine⟨rfl,?_⟩;refine Cp h λH l K h=>?_;haveI v:t.length<=1000000:=H;haveI L:word a:=BC (A3 0x2c0227735940061ac0200040 [] [_] l) (AK 0x5f735940061804b28020123d09008300441 [_] [_] K v);unfold Gm at h;refine A8 (AN rfl) (Ai (λg=>?_) λg=>?_)
 ·rw[A6 g] at h;haveI E:0<=a-1:=A3 0x2d21000400300200040 [] [_] g;exists trivial,BC (i:=a-1) (A3 0x1690800227735940061b00200040 [] [_] g) (AK 0x2fb9aca0030d210004b28020123d09008300441 [_] [_] K v),H,E,JM (t:=t) E (A3 0xc28029080025940100841 [_] [_] K);exact Xy S H l L h
 ·rw[A5 g] at h;exact Xy S H l L h
def kl:Vc I 3 0 WR RK:=λA Q D h=>by
 apply BN h;clear h;intro B _ h;apply EZ h;clear h;intro t _ h;apply Fd h;clear h;intro a h;refine⟨rfl,?_⟩;refine Cp h λH l K h=>?_;unfold Gn at h;refine Ai (λg=>?_) λg=>sp_i (S.g 2 rfl) ⟨H,l,K,A8 trivial ?_⟩
 ·rw[Bg g] at h;exact h
 ·rw[C0 g] at h;exact h
theorem km:Vc I 2 0 WX RN:=λa Q S h=>by
 apply Eb h;clear h;intro c n h;refine⟨rfl,?_⟩;refine PH h λo R l H U h=>?_;haveI t:o.length<=1000000:=l;refine(DX (BC (i:=n) (A3 0x2c0227735940061ac0200040 [] [_] H) (AK 0x5f735940061804c28020123d09008300441 [_] [_] U t)) R (DW (Dm H U)) (Lk H U) ?_:);exact h
theorem kq:Vc I 2 0 WY RO:=λa Q S h=>by
 apply Eb h;clear h;intro c n h;refine⟨rfl,?_⟩;refine PH h λo R l K U h=>?_;haveI t:o.length<=1000000:=l;haveI H:0<=n+1:=A3 0x2d010004002c0200040 [] [_] K;unfold FG at h;refine A8 trivial (.inl (Exists.intro _ (A8 R (A8 (rm l) (Ai (λg=>?_) λg=>?_)))))
 ·haveI g:n+1<((o.map AV.int).length:Int):=g;rw[Ak] at g;rw[A6 g] at h;exists trivial;refine(DX (BC (i:=n+1) (A3 0x1680800227735940061ac0200040 [] [_] K) (AK 0x17dcd650018680800247a12010600b0a00a02000841 [_] [_] t g)) R (DW (Dm H g)) (Lk H g) ?_:);exists trivial;exact h
 ·haveI g:¬n+1<((o.map AV.int).length:Int):=g;rw[Ak] at g;rw[A5 g] at h;exact h
theorem ku:Vc I 1 0 WZ RP:=λa Q S h=>by
 apply Cu h;clear h;intro c h;refine⟨rfl,?_⟩;refine BX h λo H l h=>?_;refine .inl (Exists.intro _ (A8 H (A8 (rm l) ?_)));rw[Ak];exact h
theorem O7{i:Addr}{R:Ap}{x:Int}{Q:PE}{S:AH}(V:Bs S i R)(h:Q (.bool (decide (R.B1<=x)&&decide (x<=R.Ax))) S):AP I (Qh.drop 1) (BB Q) [some (.obj i),some (.int x)] S:=by
 exists V.B1;refine Ai (λg=>?_) λg=>?_
 ·rw[Bg g] at h;exists V.Ax;exact h
 ·rw[C0 g] at h;exact h
def kv:Vc I 2 0 Qh RQ:=λa Q D h=>by
 apply Eb h;clear h;intro i o h;refine⟨rfl,?_⟩;refine AJ h λR V h=>?_;unfold G7 O5 at h;exists V.fold;refine Cf (λg=>Ai (λG=>Ai (λW=>?_) λW=>?_) λG=>BW ?_) λg=>BW ?_
 ·rw[A6 ⟨g,G,W⟩] at h;exact A8 trivial (O7 S V h)
 ·rw[A5 (λw=>W w.2.2)] at h;exact O7 S V h
 ·rw[A5 (λw=>G w.2.1)] at h;exact O7 S V h
 ·rw[A5 (λw=>g w.1)] at h;exact O7 S V h
def kx:Vc I 1 0 Wh RR:=λa Q D h=>by
 apply Fd h;clear h;intro o h;refine⟨rfl,?_⟩;haveI h:Q (.int (Bx o)) D:=h;unfold Bx at h;refine Ai (λg=>?_) λg=>Ai (λG=>?_) λG=>sp_i (S.g 0 rfl) (Cf (λl=>?_) λl=>?_)
 ·rw[A6 g] at h;exact h
 ·rw[A5 g,A6 G] at h;exact h
 ·rw[A5 g,A5 G,A6 l] at h;exact h
 ·rw[A5 g,A5 G,A5 l] at h;exact h
end
noncomputable def CB (c:List Int)(o:Int):Int:=((c.filter λx=>decide (x<=o)).length:Int)-1
def O8:List AV->PE->AH->Prop:=
 aO λc=>aI λo=>aN λQ S=>∃I:List Int,S.A1 c=some (I.map .int)/\I.length<=1000/\I.Pairwise (· < ·)/\(∃x r,I=x::r/\x<=o)/\Q (.int (CB I o)) S
def Xz{lo:Nat}(y:c.Pairwise (· < ·))(h:lo<c.length)(Q:c.getD lo 0<=o)(l:lo+1=c.length\/o<c.getD (lo+1) 0):CB c o=lo:=by
 haveI e:c=c.take (lo+1)++c.drop (lo+1):=(List.take_append_drop _ _).symm;have P:=List.pairwise_iff_getElem.mp y;have g:∀i (H:i<c.length),c.getD i 0=c[i]:=λi H=>by simp[List.getD,H]
 haveI f:(c.take (lo+1)).filter (λx=>decide (x<=o))=c.take (lo+1):=by
  rw[List.filter_eq_self];intro x W;obtain ⟨i,H,rfl⟩:=List.mem_iff_getElem.mp W;rw[List.length_take] at H;refine(List.getElem_take).symm▸?_;rw[g lo h] at Q;by_cases q:i=lo
  ·subst q;exact Bg Q
  ·haveI:=P i lo (A3 0x121080295042808041004c3 [_,_,_] [] H) h (AK 0x484200a5420a0200840122821004c3 [_,_,_] [] H q);simp;exact AK 0xb088025844213042008c0 [] [_,_,_] Q this
 haveI F:(c.drop (lo+1)).filter (λx=>decide (x<=o))=[]:=by
  rw[List.filter_eq_nil_iff];intro x W;obtain ⟨i,H,rfl⟩:=List.mem_iff_getElem.mp W;rw[List.length_drop] at H;refine(List.getElem_drop).symm▸?_;rcases l with l| l
  ·omega
  ·rw[g (lo+1) (A3 0x908501000294a02000421104c3 [_,_,_] [] H)] at l;by_cases q:i=0
   ·subst q;simp;exact A3 0x604401302200880 [] [_,_] l
   ·haveI:=P (lo+1) (lo+1+i) (A3 0x908501000294a02000421104c3 [_,_,_] [] H) (A3 0x4882808501000294a02000441084c3 [_,_,_] [] H) (A3 0x1280850100028080012280008482 [_,_] [] q);simp;exact AK 0xc088026084013022108c0 [] [_,_,_] l this
 unfold CB
 conv=>lhs;rw[e,List.filter_append,f,F]
 simp;exact A3 0x34a00a4202a821404000a42100482 [_,_] [] h
def ky(c:Addr)(o:Int)(I:List Int)(S:AH)(n:Nat)(L:AE)(t:AH)(l:Prop):Prop:=
 ∀(lo h:Nat) m,t=S->L=[some (.obj c),some (.int o),some (.int lo),some (.int h),m]->lo<h->h<=I.length->n=h-lo->I.getD lo 0<=o->(h=I.length\/o<I.getD h 0)->l
def kz(c:Addr)(o:Int)(I:List Int)(S:AH)(n:Nat)(L:AE)(t:AH):Prop:=Ch (ky c o I S n L t)
section
variable{I:Ag}(S:AU I JN)
def l4:Vc I 2 3 WW O8:=λd Q D h=>by
 apply Eb h;clear h;intro c o h;refine⟨rfl,?_⟩;obtain ⟨p,S,l,y,⟨x,r,W,A⟩,h⟩:=h;haveI w:p.length<=1000000:=BE l (AN rfl);haveI hlen:0<p.length:=by rw[W];exact Nat.succ_pos _
 haveI R:(p.map AV.int).length=p.length:=Ak _;refine Or.inl (Exists.intro _ (A8 S (A8 (rm w) (A8 (AN rfl) (Exists.intro (kz c o p D) (A8 ⟨p.length,λZ B=>B 0 ((p.map AV.int).length) none rfl rfl (by rw[R];exact hlen) (Nat.le_of_eq R) R.symm (by rw[W];exact A) (.inl R)⟩ ?_))))));intro n L T a;refine a _ λlo H m Y O k1 k2 j k3 K=>?_;rcases Y with rfl;rcases O with rfl;rcases j with rfl
 refine A8 trivial (Ai (λg=>?_) λg=>?_)
 ·have g:(1:Int)<H-lo:=g;haveI E:Dv.val .fdiv (Dv.val .add (lo:Int) H) 2=(((lo+H)/2:Nat):Int):=by refine(?_:((lo:Int)+H).fdiv 2=_);rw[Int.fdiv_eq_ediv_of_nonneg _ (by decide)];rfl
  haveI t:lo<(lo+H)/2/\(lo+H)/2<H:=by(first| lia| omega)
  refine A8 trivial (A8 (show (2:Int)≠0/\(2:Int).natAbs<1073741824 by decide) ?_);refine(E).symm▸?_;generalize (lo+H)/2=md at t;haveI v:md<p.length:=Fv t.2 k2;exists BC (i:=md) (Ae 0x2ca0093b9aca0030c41 [_] []) (AK 0x17dcd650018650051f408610a42100482 [_,_] [] l v),S,DW (Dm (Dh md) (Int.ofNat_lt.2 v)),Lk (Dh md) (Int.ofNat_lt.2 v);exact Ai (λq=>⟨H-md,by exact A3 0x4a441005210802e480210a421104c3 [_,_,_] [] t,λZ B=>B md H _ rfl rfl t.2 k2 rfl q K⟩) λq=>⟨md-lo,by exact A3 0x4a421105210802e488200a401084c3 [_,_,_] [] t,λZ B=>B lo md _ rfl rfl t.1 (Nat.le_of_lt v) rfl k3 (.inr (Int.not_le.1 q))⟩
 ·haveI g:¬(1:Int)<H-lo:=g;haveI e:H=lo+1:=AK 0x148080210052008424624a10940108082 [_,_] [] k1 g;subst e;haveI h:=(Xz y k2 k3 (K.imp id id))▸h;exact h
end
def CN(C:List AV->PE->AH->Prop)(c:Addr):List AV->PE->AH->Prop:=λA Q S=>∀a,S.fresh a->C (.obj a::A) (λv S=>v= .none/\Q (.obj a) S) (S.uN a c)
noncomputable def tt (K:List Int):List (Int×AV):=K.map λk=>(k,.bool true)
noncomputable def DZ (K:List Int)(k:Int):List Int:=if k∈K then K else K++[k]
def l5(K:List Int)(k:Int):(tt K).any (λx=>decide (x.1=k))=decide (k∈K):=by
 unfold tt;rw[List.any_map,Bool.eq_iff_iff];simp[List.any_eq_true]
def RV(K:List Int)(k:Int):Hw (tt K) k (.bool true)=tt (DZ K k):=by
 unfold Hw DZ;rw[l5];by_cases h:k∈K
 ·rw[A6 (Bg h),A6 h];unfold tt;rw[List.map_map];apply List.map_congr_left;intro x _;dsimp only[Function.comp];split
  ·rfl
  ·rfl
 ·rw[A5 (by simpa using h),A5 h];unfold tt;simp
def O9(K:List Int):(tt K).length=K.length:=Ak _
def Ll(K:List Int)(k:Int):(DZ K k).length<=K.length+1:=by unfold DZ;split<;>simp
noncomputable def As (K:List Int)(lo h:Int):List Int:=if h<255 then DZ (DZ K lo) (h+1) else DZ K lo
noncomputable def IE (K:List Int)(lo h:Int):List Int:=
 let a:=As K lo h
 let b:=if lo<=90/\65<=h then As a 65 90 else a
 if max lo 97<=min h 122 then As b (max lo 97-32) (min h 122-32) else b
def EL(K:List Int)(lo h:Int):(As K lo h).length<=K.length+2:=by
 unfold As;haveI a:=Ll K lo;haveI b:=Ll (DZ K lo) (h+1);split<;>(first| lia| omega)
def Lm:List AV->PE->AH->Prop:=
 aO λb=>aN λQ S=>S.cls b=some 132/\∀d,S.fresh d->Q .none ((S.uI d (tt [0])).uF b 0 (.obj d))
def l7(S:AH)(b d:Addr)(K:List Int)(l:Prop):Prop:=
 (S.cls b=some 132)->(S.A4 b 0=some (.obj d))->(S.AL d=some (tt K))->l
def E4(S:AH)(b d:Addr)(K:List Int):Prop:=Ch (l7 S b d K)
section
variable(zh:E4 σ b d ks)
def E4.cls:=zh _ λz Z Z=>z
def E4.A4:=zh _ λZ z Z=>z
def E4.AL:=zh _ λZ Z z=>z
end
def RW:List AV->PE->AH->Prop:=
 aO λb=>aI λlo=>aI λh=>aN λQ S=>∃d K,E4 S b d K/\K.length<=1000/\Q .none (S.uI d (tt (As K lo h)))
def RX:List AV->PE->AH->Prop:=
 aO λb=>aI λlo=>aI λh=>aN λQ S=>∃d K,E4 S b d K/\K.length<=990/\Q .none (S.uI d (tt (IE K lo h)))
def KC(σ:AH)(d:Addr)(l m:List (Int×AV)):(σ.uI d l).uI d m=σ.uI d m:=by
 exact AO (λf=>{σ with AL:=f}) (funext λb=>by refine(?_:(if b=d then some m else if b=d then some l else σ.AL b)=if b=d then some m else σ.AL b);split<;>rfl)
def E4.upd{W K:List Int}(h:E4 S b d W):E4 (S.uI d (tt K)) b d K:=(λZ B=>B h.cls h.A4 (A6 rfl))
set_option tactic.hygienic true in
def Y0(σ:AH)(d:Addr)(h:σ.AL d=some l):σ.uI d l=σ:=by
 exact AO (λf=>{σ with AL:=f}) (funext λb=>by
  refine(?_:(if b=d then some l else σ.AL b)=σ.AL b);split
  ·rename_i e;rw[e,h]
  ·rfl)
def RY:Tb:=(4,Lm)::(6,RW)::(7,RX)::JN
section
variable{I:Ag}(S:AU I RY)
include S
theorem l8:Vc I 1 0 WS Lm:=λa Q S h=>by
 apply Cu h;clear h;intro b h;refine⟨rfl,?_⟩;refine Ac (λH h=>?_) h;refine λd hd=>?_;exists H,by decide
 exact h d hd
theorem lA:Vc I 3 0 WT RW:=λa Q S h=>by
 apply RD h;clear h;intro b lo H h;refine⟨rfl,?_⟩;refine C2 h λd K V M h=>?_;haveI t:∀{l:List Int},l.length<=1001->room (tt l).length:=λh=>by rw[O9];exact BE h (AN rfl)
 unfold As at h;exists V.A4,V.AL,t (BE M (AN rfl));rw[RV];refine Ai (λg=>?_) λg=>?_
 ·rw[A6 g] at h;exists V.A4,trivial,(A6 rfl:(S.uI d (tt (DZ K lo))).AL d=some (tt (DZ K lo))),t (BE (Ll K lo) (Nat.succ_le_succ M));haveI e:(S.uI d (tt (DZ K lo))).uI d (Hw (tt (DZ K lo)) (H+1) (.bool true))=S.uI d (tt (DZ (DZ K lo) (H+1))):=by rw[KC,RV]
  rw[<-e] at h;exact h
 ·rw[A5 g] at h;exact h
def u7{b d:Addr}{K kb:List Int}{lo H:Int}{Q:PE}{D:AH}(V:E4 D b d K)(R:kb.length<=998)(h:Q .none (D.uI d (tt (if max lo 97<=min H 122 then As kb (max lo 97-32) (min H 122-32) else kb)))):
  AP I (Qf.drop 2) (BB Q) [some (.obj b),some (.int lo),some (.int H)] (D.uI d (tt kb)):=by
 refine A8 (AN rfl) (Ai (λg=>?_) λg=>?_)
 ·rw[A6 g] at h;exists V.cls,BU S.m (by decide+kernel:Am 132 0=some 6),trivial,trivial;refine sp_i (S.g 6 rfl) ⟨d,kb,V.upd,BE R (AN rfl),.inl rfl,?_⟩;rw[KC];exact h
 ·rw[A5 g] at h;exact h
def lB:Vc I 3 0 Qf RX:=λa Q D h=>by
 apply RD h;clear h;intro b lo H h;refine⟨rfl,?_⟩;refine C2 h λd K V M h=>?_;haveI h:Q .none (D.uI d (tt (if max lo 97<=min H 122 then As (if lo<=90/\65<=H then As (As K lo H) 65 90 else As K lo H) (max lo 97-32) (min H 122-32) else(if lo<=90/\65<=H then As (As K lo H) 65 90 else As K lo H)))):=h;have l:(As K lo H).length<=992:=BE (EL K lo H) (Nat.add_le_add_right M 2);haveI L:(As (As K lo H) 65 90).length<=994:=BE (EL _ _ _) (Nat.add_le_add_right l 2);exists V.cls,BU S.m (by decide+kernel:Am 132 0=some 6);refine sp_i (S.g 6 rfl) ⟨d,K,V,BE M (AN rfl),.inl rfl,Ai (λg=>Ai (λG=>?_) λG=>?_) λg=>BW ?_⟩
 ·haveI e:(if lo<=90/\65<=H then As (As K lo H) 65 90 else As K lo H)=As (As K lo H) 65 90:=A6 ⟨g,G⟩;rw[e] at h;exists V.cls,BU S.m (by decide+kernel:Am 132 0=some 6);refine sp_i (S.g 6 rfl) ⟨d,As K lo H,V.upd,BE l (AN rfl),.inl rfl,?_⟩;rw[KC];exact u7 S V (BE L (AN rfl)) h
 ·haveI e:(if lo<=90/\65<=H then As (As K lo H) 65 90 else As K lo H)=As K lo H:=A5 (λw=>G w.2);rw[e] at h;exact u7 S V (BE l (AN rfl)) h
 ·haveI e:(if lo<=90/\65<=H then As (As K lo H) 65 90 else As K lo H)=As K lo H:=A5 (λw=>g w.1);haveI h:=(e)▸h;exact u7 S V (BE l (AN rfl)) h
end
def E5 (K:List Int)(R:Ap):List Int:=
 if R.op=1 then(if R.fold=true then IE K R.B1 R.Ax else As K R.B1 R.Ax)
 else if R.op=3 then
  let a:=if Ab R.arg (AQ 1 2)=0 then K else As K 10 10
  if Ab R.arg (AQ 16 32)=0 then a else As (As (As (As a 48 57) 65 90) 95 95) 97 122
 else K
def lC(b:Addr)(i:Addr)(Q:PE)(S:AH)(l:Prop):Prop:=
 ∀d K R,(E4 S b d K)->(Bs S i R)->(K.length<=900)->(Q .none (S.uI d (tt (E5 K R))))->l
def lD(b:Addr)(i:Addr)(Q:PE)(S:AH):Prop:=Ch (lC b i Q S)
def RZ:List AV->PE->AH->Prop:=
 aO λb=>aO λi=>aN λQ S=>lD b i Q S
def Ln:List AV->PE->AH->Prop:=
 aO λb=>aN λQ S=>∃d K,E4 S b d K/\K.length<64/\∀a,S.fresh a->Q (.obj a) (S.uL a ((sortI K).map .int))
def Rb:Tb:=(8,RZ)::(9,Ln)::RY
section
variable{I:Ag}(S:AU I Rb)
include S
theorem lE:Vc I 1 0 WU Ln:=λa Q S h=>by
 apply Cu h;clear h;intro b h;refine⟨rfl,?_⟩;refine C2 h λd K V H h=>?_;haveI e:(tt K).map (·.1)=K:=by unfold tt;rw[List.map_map];exact List.map_id'' (λZ=>rfl) _
 exists V.A4,V.AL,(O9 K).symm▸H;rw[e];exact h
def mk8{K kb:List Int}{lo h:Int}(V:E4 D b d K)(H:kb.length<=1000)(Q:P .none (D.uI d (tt (As kb lo h)))):I.spec 6 [.obj b,.int lo,.int h] P (D.uI d (tt kb)):=
 sp_i (S.g 6 rfl) ⟨d,kb,V.upd,H,by rw[KC];exact Q⟩
def Y1{D:AH}{b i d:Addr}{X kb:List Int}{R:Ap}{K:Fl->AE->AH->Prop}{x A:Option AV}(V:E4 D b d X)(W:Bs D i R)(H:kb.length<=990)
  (h:∀L,K .next L (D.uI d (tt (if Ab R.arg (AQ 16 32)=0 then kb else As (As (As (As kb 48 57) 65 90) 95 95) 97 122)))):
  AP I ((O4 ((RG ((RG ((Np).headD .brk)).headD .brk)).headD .brk)).drop 1) K [some (.obj b),some (.obj i),x,A] (D.uI d (tt kb)):=by
 haveI M:=EL kb 48 57;haveI o:=EL (As kb 48 57) 65 90;haveI e:=EL (As (As kb 48 57) 65 90) 95 95;haveI m:=BU S.m (by decide+kernel:Am 132 0=some 6);haveI c:∀l,(D.uI d l).cls b=some 132:=λl=>V.cls;refine pO_i (o:=D.A4 i 3) W.arg ?_;exists trivial,trivial;refine DL (λg=>?_) (λg=>?_)
 ·haveI g:¬Ab R.arg (AQ 16 32)=0:=g;rw[A5 g] at h;exists trivial,c _,m;refine mk8 S V (A3 0x47d0218028f784300441 [_] [] H) (A8 (.inl rfl) ?_);exists trivial,c _,m;refine mk8 S V (AK 0x47d0218028f7843085081002100482 [_,_] [] H M) (A8 (.inl rfl) ?_);exists trivial,c _,m;refine mk8 S V (CA 0x47d0218028f784308508100211050810041004c3 [_,_,_] [] H M o) (A8 (.inl rfl) ?_);exists trivial,c _,m;exact mk8 S V (Kj 0x47d0218028f784308508100211050810041185081006100504 [_,_,_,_] [] H M o e) (A8 (.inl rfl) (A8 trivial (h _)))
 ·haveI g:Ab R.arg (AQ 16 32)=0:=g;rw[A6 g] at h;exact h _
def lF:Vc I 2 2 Np RZ:=λA Q D h=>by
 apply KA h;clear h;intro b i h;refine⟨rfl,?_⟩;refine h _ λd K R V W H h=>?_;have m:=BU S.m (by decide+kernel:Am 132 0=some 6);haveI c:∀l,(D.uI d l).cls b=some 132:=λl=>V.cls;haveI G:Dz I 2 Np [.obj b,.obj i] Q (D.uI d (tt K)):=by
  unfold E5 at h;haveI O:(D.uI d (tt K)).A4 i 1=some (.int R.op):=W.op;haveI lo:(D.uI d (tt K)).A4 i 4=some (.int R.B1):=W.B1;haveI F:(D.uI d (tt K)).A4 i 5=some (.int R.Ax):=W.Ax;exists O;refine Ai (λo=>?_) (λo=>BW ?_)
  ·rw[A6 o] at h;refine(pO_i (W.fold:(D.uI d (tt K)).A4 i 6=_) ?_:);refine Cf (λe=>?_) (λe=>?_)
   ·rw[A6 e] at h;exists c _,BU S.m (by decide+kernel:Am 132 1=some 7),lo,F;exact sp_i (S.g 7 rfl) ⟨d,K,V.upd,by exact A3 0x47bc218028e104300441 [_] [] H,A8 (.inl rfl) (by rw[KC];exact h)⟩
   ·rw[A5 e] at h;exists O;refine Ai (λZ=>?_) (λw=>Ad o w);exists c _,m,lo,F;exact mk8 S V (A3 0x47d0218028e104300441 [_] [] H) (A8 (.inl rfl) h)
  ·rw[A5 o] at h;exists O;refine Ai (λw=>Ad w o) (λZ=>?_);exists O;refine Ai (λf=>?_) (λf=>?_)
   ·rw[A6 f] at h;haveI a:=EL K 10 10;refine(pO_i (W.arg:(D.uI d (tt K)).A4 i 3=_) ?_:);exists trivial,trivial;refine DL (λg=>?_) (λg=>?_)
    ·exists c _,m;refine mk8 S V (A3 0x47d0218028e104300441 [_] [] H) (A8 (.inl rfl) ?_);refine Y1 S V W (AK 0x47bc218028e1043085081002100482 [_,_] [] H a) λL=>?_;rw[A5 (show ¬Ab R.arg (AQ 1 2)=0 from g)] at h;exact h
    ·refine Y1 S V W (A3 0x47bc218028e104300441 [_] [] H) λL=>?_;rw[A6 (show Ab R.arg (AQ 1 2)=0 from g)] at h;exact h
   ·rw[A5 f] at h;exact h
 haveI G:=(Y0 D d V.AL)▸G;exact G
end
def lG(M:Addr->Prop)(S E:AH)(m:Prop):Prop:=
 (∀a c,S.cls a=some c->E.cls a=some c)->(∀a,S.cls a≠none->¬M a->E.A4 a=S.A4 a)->(∀a l,S.A1 a=some l->¬M a->E.A1 a=some l)->(∀a l,S.set a=some l->¬M a->E.set a=some l)->(∀a l,S.AL a=some l->¬M a->E.AL a=some l)->(∀a l,S.AZ a=some l->¬M a->E.AZ a=some l)->m
def Bt(M:Addr->Prop)(S E:AH):Prop:=Ch (lG M S E)
section
variable{M:Addr->Prop}(zh:Bt M σ Aq)
def Bt.cls:=zh _ λz Z Z Z Z Z=>z
def Bt.A4:=zh _ λZ z Z Z Z Z=>z
def Bt.A1:=zh _ λZ Z z Z Z Z=>z
def Bt.set:=zh _ λZ Z Z z Z Z=>z
def Bt.AL:=zh _ λZ Z Z Z z Z=>z
def Bt.AZ:=zh _ λZ Z Z Z Z z=>z
end
namespace Bt
variable{M N:Addr->Prop}{σ Bk DA:AH}
def refl:Bt M σ σ:=(λZ B=>B (λZ Z h=>h) (λZ Z Z=>rfl) (λZ Z h Z=>h) (λZ Z h Z=>h) (λZ Z h Z=>h) (λZ Z h Z=>h))
def trans(x:Bt M σ Bk)(y:Bt M Bk DA):Bt M σ DA:=λZ B=>B
  (λa c h=>y.cls a c (x.cls a c h))
  (λa h n=>by
   refine AW (CD h) λc H=>?_;rw[y.A4 a (nn (x.cls a c H)) n,x.A4 a h n])
  (λa l h n=>y.A1 a l (x.A1 a l h n) n)
  (λa l h n=>y.set a l (x.set a l h n) n)
  (λa l h n=>y.AL a l (x.AL a l h n) n)
  (λa l h n=>y.AZ a l (x.AZ a l h n) n)
def mono(x:Bt M σ Bk)(h:∀a,M a->N a):Bt N σ Bk:=(λZ B=>B x.cls (λa q n=>x.A4 a q λm=>n (h a m)) (λa l q n=>x.A1 a l q λm=>n (h a m)) (λa l q n=>x.set a l q λm=>n (h a m)) (λa l q n=>x.AL a l q λm=>n (h a m)) (λa l q n=>x.AZ a l q λm=>n (h a m)))
def uL(h:M a\/σ.A1 a=none):Bt M σ (σ.uL a l):=by
 refine(λZ B=>B (λZ Z h=>h) (λZ Z Z=>rfl) (λb m q n=>?_) (λZ Z h Z=>h) (λZ Z h Z=>h) (λZ Z h Z=>h));have:b≠a:=by
  intro A;obtain rfl:=A;obtain h| h:=h
  ·exact n h
  ·exact nO q h
 refine(?_:(if b=a then some l else σ.A1 b)=some m);rw[A5 this];exact q
def uS(h:M a\/σ.set a=none):Bt M σ (σ.uS a l):=by
 refine(λZ B=>B (λZ Z h=>h) (λZ Z Z=>rfl) (λZ Z h Z=>h) (λb m q n=>?_) (λZ Z h Z=>h) (λZ Z h Z=>h));have:b≠a:=by
  intro A;obtain rfl:=A;obtain h| h:=h
  ·exact n h
  ·exact nO q h
 refine(?_:(if b=a then some l else σ.set b)=some m);rw[A5 this];exact q
def uI(h:M a\/σ.AL a=none):Bt M σ (σ.uI a l):=by
 refine(λZ B=>B (λZ Z h=>h) (λZ Z Z=>rfl) (λZ Z h Z=>h) (λZ Z h Z=>h) (λb m q n=>?_) (λZ Z h Z=>h));have:b≠a:=by
  intro A;obtain rfl:=A;obtain h| h:=h
  ·exact n h
  ·exact nO q h
 refine(?_:(if b=a then some l else σ.AL b)=some m);rw[A5 this];exact q
def uT(h:M a\/σ.AZ a=none):Bt M σ (σ.uT a l):=by
 refine(λZ B=>B (λZ Z h=>h) (λZ Z Z=>rfl) (λZ Z h Z=>h) (λZ Z h Z=>h) (λZ Z h Z=>h) (λb m q n=>?_));have:b≠a:=by
  intro A;obtain rfl:=A;obtain h| h:=h
  ·exact n h
  ·exact nO q h
 refine(?_:(if b=a then some l else σ.AZ b)=some m);rw[A5 this];exact q
def uF(h:M a\/σ.cls a=none):Bt M σ (σ.uF a f v):=by
 refine(λZ B=>B (λZ Z h=>h) (λb q n=>?_) (λZ Z h Z=>h) (λZ Z h Z=>h) (λZ Z h Z=>h) (λZ Z h Z=>h));have:b≠a:=by
  intro A;obtain rfl:=A;obtain h| h:=h
  ·exact n h
  ·exact q h
 funext g
 refine(?_:(if b=a/\g=f then some v else σ.A4 b g)=σ.A4 b g);rw[A5 λw=>this w.1]
def uN(h:σ.cls a=none):Bt M σ (σ.uN a c):=by
 have N:∀b,σ.cls b≠none->b≠a:=λb q e=>q (e▸h);refine(λZ B=>B (λb d q=>?_) (λb q n=>?_) (λZ Z h Z=>h) (λZ Z h Z=>h) (λZ Z h Z=>h) (λZ Z h Z=>h))
 ·refine(?_:(if b=a then some c else σ.cls b)=some d);rw[A5 (N b (nn q))];exact q
 ·funext g
  refine(?_:(if b=a then none else σ.A4 b g)=σ.A4 b g);rw[A5 (N b q)]
end Bt
structure AM where
 AG:List Ap
 start:Int
 loose:Int
 rev:Bool
 DE:Bool
 CO:Bool
def lH(S:AH)(p C:Addr)(A:List Addr)(P:AM)(l:Prop):Prop:=
 (S.cls p=some 217)->(S.A4 p 8=some (.obj C))->(S.A1 C=some (A.map .obj))->(A.length=P.AG.length)->(∀(i:Nat) (a:Addr) (R:Ap),A[i]?=some a->P.AG[i]?=some R->Bs S a R)->(S.A4 p 9=some (.int P.start))->(S.A4 p 10=some (.int P.loose))->(S.A4 p 11=some (.bool P.rev))->(S.A4 p 12=some (.bool P.DE))->(S.A4 p 13=some (.bool P.CO))->l
def BJ(S:AH)(p C:Addr)(a:List Addr)(P:AM):Prop:=Ch (lH S p C a P)
section
variable(zh:BJ σ p il as P)
def BJ.cls:=zh _ λz Z Z Z Z Z Z Z Z Z=>z
def BJ.AG:=zh _ λZ z Z Z Z Z Z Z Z Z=>z
def BJ.A1:=zh _ λZ Z z Z Z Z Z Z Z Z=>z
def BJ.len:=zh _ λZ Z Z z Z Z Z Z Z Z=>z
def BJ.inst:=zh _ λZ Z Z Z z Z Z Z Z Z=>z
def BJ.start:=zh _ λZ Z Z Z Z z Z Z Z Z=>z
def BJ.loose:=zh _ λZ Z Z Z Z Z z Z Z Z=>z
def BJ.rev:=zh _ λZ Z Z Z Z Z Z z Z Z=>z
def BJ.DE:=zh _ λZ Z Z Z Z Z Z Z z Z=>z
def BJ.CO:=zh _ λZ Z Z Z Z Z Z Z Z z=>z
end
def Bs.Ao{M:Addr->Prop}(h:Bs S a R)(k:Bt M S E)(n:¬M a):Bs E a R:=by
 haveI e:=k.A4 a (nn h.cls) n;exact(λZ B=>B (k.cls _ _ h.cls) (by rw[e];exact h.op) (by rw[e];exact h.out) (by rw[e];exact h.arg) (by rw[e];exact h.B1) (by rw[e];exact h.Ax) (by rw[e];exact h.fold) (by rw[e];exact h.last))
def BJ.Ao{M:Addr->Prop}{p C:Addr}(h:BJ S p C A P)(k:Bt M S E)(n:¬M p)(N:¬M C)(T:∀a∈A,¬M a):BJ E p C A P:=by
 haveI e:=k.A4 p (nn h.cls) n;exact(λZ B=>B (k.cls _ _ h.cls) (by rw[e];exact h.AG) (k.A1 _ _ h.A1 N) h.len (λi a R H l=>(h.inst i a R H l).Ao k (T a (Bj H))) (by rw[e];exact h.start) (by rw[e];exact h.loose) (by rw[e];exact h.rev) (by rw[e];exact h.DE) (by rw[e];exact h.CO))
def Bt.drop{M:Addr->Prop}(x:Bt (λa=>M a\/S.fresh a) S E):Bt M S E:=λZ B=>B
  (x.cls)
  (λa h n=>x.A4 a h λw=>w.elim n λf=>h f.1)
  (λa l h n=>x.A1 a l h λw=>w.elim n λf=>by exact nO h f.2.1)
  (λa l h n=>x.set a l h λw=>w.elim n λf=>by exact nO h f.2.2.1)
  (λa l h n=>x.AL a l h λw=>w.elim n λf=>by exact nO h f.2.2.2.1)
  (λa l h n=>x.AZ a l h λw=>w.elim n λf=>by exact nO h f.2.2.2.2)
def marks (l:List Ap):List Int:=l.foldl E5 [0]
def cutsOf (l:List Ap):List Int:=sortI (marks l)
def JO:List AV->PE->AH->Prop:=
 aO λp=>aN λQ S=>(∃c,S.A4 p 18=some (.obj c)/\S.cls p=some 217/\Q (.obj c) S)\/(∃C A P,S.A4 p 18=some .none/\BJ S p C A P/\(marks P.AG).length<64/\P.AG.length<=50/\
   ∀E c,Bt (λa=>a=p) S E->S.A1 c=none->E.A1 c=some ((cutsOf P.AG).map .int)->(∀f,f≠18->E.A4 p f=S.A4 p f)->E.A4 p 18=some (.obj c)->Q (.obj c) E)
def lI(K:List Int)(lo h:Int):(IE K lo h).length<=K.length+6:=by
 unfold IE;haveI a:=EL K lo h;haveI b:=EL (As K lo h) 65 90;haveI c:=EL (As K lo h) (max lo 97-32) (min h 122-32);haveI d:=EL (As (As K lo h) 65 90) (max lo 97-32) (min h 122-32);simp only;split<;>split<;>(first| lia| omega)
def Y2(K:List Int)(R:Ap):(E5 K R).length<=K.length+10:=by
 unfold E5;haveI a:=lI K R.B1 R.Ax;haveI b:=EL K R.B1 R.Ax;haveI c:=EL K 10 10;haveI d:∀kb,(As (As (As (As kb 48 57) 65 90) 95 95) 97 122).length<=kb.length+8:=λkb=>by
  haveI l:=EL kb 48 57;haveI L:=EL (As kb 48 57) 65 90;haveI e:=EL (As (As kb 48 57) 65 90) 95 95;haveI V:=EL (As (As (As kb 48 57) 65 90) 95 95) 97 122
  (first| lia| omega)
 haveI D:=d K;haveI o:=d (As K 10 10);simp only
 repeat' split
 all_goals (first| lia| omega)
def Rc:Tb:=(5,CN Lm 132)::(10,JO)::Rb
def Rd(p b d:Addr)(R:List Ap)(T:AH)(i:Nat)(L:AE)(t:AH)(l:Prop):Prop:=
 ∀K m,t=T.uI d (tt K)->L=[some (.obj p),some (.obj b),m]->(R.drop i).foldl E5 K=marks R->K.length<=1+10*i->l
def Rf(p b d:Addr)(R:List Ap)(T:AH)(i:Nat)(L:AE)(t:AH):Prop:=Ch (Rd p b d R T i L t)
section
variable{I:Ag}(S:AU I Rc)
include S
def lJ:Vc I 1 2 WV JO:=λargs Q σ h=>by
 apply Cu h;clear h;intro p h;refine⟨rfl,?_⟩;obtain ⟨cl,h1,h2,h⟩| ⟨il,as,P,h1,V,hm,hn,h⟩:=h
 ·exists h1;refine BW ?_;exists h1;exact h
 ·exists h1;refine CT (sp_i (S.g 5 rfl) λb hb=>?_);refine A8 (A6 rfl) λd hd=>A8 rfl ?_;have Y3:p≠b:=λe=>by have:=hb.1;rw[<-e,V.cls] at this;cases this
  generalize Lo:((σ.uN b 132).uI d (tt [0])).uF b 0 (.obj d)=A7;have Y4:σ.fresh d:=by
   obtain ⟨q1,q2,q3,q4,q5⟩:=hd;refine⟨?_,q2,q3,q4,q5⟩;haveI q1:(if d=b then some 132 else σ.cls d)=none:=q1;split at q1
   ·cases q1
   ·exact q1
  have k0:Bt (λa=>(λa=>a=p) a\/σ.fresh a) σ A7:=by
   rw[<-Lo];exact((Bt.uN hb.1).trans (Bt.uI (.inl (.inr Y4)))).trans (Bt.uF (.inl (.inr hb)))
  have fe:∀{a:Addr} {f:Nat} {v:Option AV},a≠b->σ.A4 a f=v->A7.A4 a f=v:=λ{a f v} n e=>by
   refine(Lo)▸?_;refine(?_:(if a=b/\f=0 then some (AV.obj d) else if a=b then none else σ.A4 a f)=_);rw[A5 (λw=>n w.1),A5 n];exact e
  have v0:E4 A7 b d [0]:=by
   refine(Lo)▸?_;exact(λZ zK=>zK (A6 rfl) (A6 ⟨rfl,rfl⟩) (A6 rfl))
  haveI h0:A7.uI d (tt [0])=A7:=Y0 A7 d v0.AL;have hl:A7.A1 il=some (as.map .obj):=by rw[<-Lo];exact V.A1
  have lK:∀(i:Nat) (a:Addr) (R:Ap),as[i]?=some a->P.AG[i]?=some R->Bs A7 a R:=λi a R q1 q2=>by
   haveI w:=V.inst i a R q1 q2;have ne:a≠b:=λe=>by have:=w.cls;exact nO this (e▸hb.1)
   exact(λZ zK=>zK (k0.cls _ _ w.cls) (fe ne w.op) (fe ne w.out) (fe ne w.arg) (fe ne w.B1) (fe ne w.Ax) (fe ne w.fold) (fe ne w.last))
  exists fe Y3 V.AG,Er hl;refine DY (Rf p b d P.AG A7) (λZ zK=>zK [0] none h0.symm rfl rfl (Nat.le_refl _)) ?_ ?_ ?_
  ·intro i L CH zz;refine zz _ λks m e Z Z Z=>?_;rw[e];exact hl
  ·intro i v L CH K hi zz hv kn _ _ _;refine zz _ λks m y3 y4 hr hk=>?_;rcases y3 with rfl;rcases y4 with rfl
   rw[Bb] at hv;refine AJ (BY.1 hv) λa ha Br=>?_;subst Br;rw[Ak,V.len] at hi;haveI hR:=Aw hi;generalize P.AG[i]=R at hR;haveI C:=lK i a R ha hR;rw[F9 hR,Im] at hr;haveI lL:=Y2 ks R;refine⟨_,rfl,?_⟩;haveI vb:E4 (A7.uI d (tt ks)) b d ks:=v0.upd;exists vb.cls,BU S.m (by decide+kernel:Am 132 2=some 8);refine sp_i (S.g 8 rfl) (λZ zK=>zK d ks R vb C (CA 0x238410c014064218429084414214610420004c3 [_,_,_] [] hn hi hk) ⟨.inl rfl,?_⟩);rw[KC];exact kn _ _ (λZ zK=>zK (E5 ks R) _ rfl rfl hr (AK 0x8428c8080210800142146084201050850041004c3 [_,_,_] [] hk lL))
  ·intro L CH zz;refine zz _ λks m y1 y2 hr hk=>?_;rcases y1 with rfl;rcases y2 with rfl
   rw[Ak,V.len,Fx] at hr;haveI hr:ks=marks P.AG:=hr;subst hr;haveI vb:E4 (A7.uI d (tt (marks P.AG))) b d (marks P.AG):=v0.upd;exists vb.cls,BU S.m (by decide+kernel:Am 132 3=some 9);refine sp_i (S.g 9 rfl) ⟨d,marks P.AG,vb,hm,λcl E1=>?_⟩;exists k0.cls _ _ V.cls,by decide
   have Y5:((((A7.uI d (tt (marks P.AG))).uL cl ((sortI (marks P.AG)).map .int))).uF p 18 (.obj cl)).A4 p 18=some (.obj cl):=A6 ⟨rfl,rfl⟩;exists Y5;haveI lM:σ.A1 cl=none:=by haveI:=E1.2.1;rw[<-Lo] at this;exact this
   refine h _ cl (Bt.drop (((k0.trans (Bt.uI (.inl (.inr Y4)))).trans (Bt.uL (.inr E1.2.1))).trans (Bt.uF (.inl (.inl rfl))))) lM (A6 rfl) (λf hf=>?_) Y5;refine(?_:(if p=p/\f=18 then _ else A7.A4 p f)=_);rw[A5 (λw=>hf w.2)];exact fe Y3 rfl
end
def KD:List AV->PE->AH->Prop:=
 aO λs=>aA λn=>aA λh=>aA λf=>aA λC=>aN λQ S=>S.cls s=some 266/\∀d,S.fresh d->Q .none ((((((S.uF s 19 n).uF s 15 h).uF s 20 f).uF s 21 C).uI d []).uF s 22 (.obj d))
def Rg:List AV->PE->AH->Prop:=
 aO λs=>aN λQ S=>∃f,S.A4 s 20=some (.int f)/\Q (.bool (decide (Ab f 128≠0))) S
noncomputable def OA (f:Int):Int:=f.fdiv (2^(8:Int).toNat)
def Rh:List AV->PE->AH->Prop:=
 aO λs=>aN λQ S=>∃f,S.A4 s 20=some (.int f)/\Q (.int (OA f)) S
def G8 (f o:Int):Int:=
 if OA f=0 then 0 else
  let a:=Ab f 63
  let b:=if o=256 then AQ (AQ a 2) 8 else if o=10 then AQ a 2 else a
  if(decide (o≠256)&&Bi o)=decide (Ab f 128≠0) then AQ b 32 else AQ b 16
def Ri:List AV->PE->AH->Prop:=
 aO λs=>aI λo=>aN λQ S=>∃f,S.cls s=some 266/\S.A4 s 20=some (.int f)/\Q (.int (G8 f o)) S
def KG:List AV->PE->AH->Prop:=
 aO λq=>aN λQ S=>S.cls q=some 301/\∀d,S.fresh d->∀e,((S.uL d []).uF q 23 (.obj d)).fresh e->Q .none ((((S.uL d []).uF q 23 (.obj d)).uS e []).uF q 24 (.obj e))
def lN(S:AH)(q C m:Addr)(O M:List Int)(l:Prop):Prop:=
 (S.cls q=some 301)->(S.A4 q 23=some (.obj C))->(S.A4 q 24=some (.obj m))->(S.A1 C=some (O.map .int))->(S.set m=some M)->l
def CI(S:AH)(q C M:Addr)(O m:List Int):Prop:=Ch (lN S q C M O m)
section
variable(zh:CI σ q il ms items met)
def CI.cls:=zh _ λz Z Z Z Z=>z
def CI.FH:=zh _ λZ z Z Z Z=>z
def CI.IG:=zh _ λZ Z z Z Z=>z
def CI.A1:=zh _ λZ Z Z z Z=>z
def CI.set:=zh _ λZ Z Z Z z=>z
end
def lO(q:Addr)(i:Int)(Q:PE)(S:AH)(l:Prop):Prop:=
 ∀Y M C m,(CI S q Y M C m)->(m.length<=900)->(C.length<=10000)->((i∈m->Q (.bool false) S))->((i∉m->Q (.bool true) ((S.uS M (m++[i])).uL Y ((C++[i]).map .int))))->l
def lP(q:Addr)(i:Int)(Q:PE)(S:AH):Prop:=Ch (lO q i Q S)
def Rj:List AV->PE->AH->Prop:=
 aO λq=>aI λi=>aN λQ S=>lP q i Q S
noncomputable def markL (C:List Int):List Int:=if C=[]\/C.getLast?=some (-1) then C else C++[-1]
def lQ(q:Addr)(Q:PE)(S:AH)(l:Prop):Prop:=
 ∀Y M C m,(CI S q Y M C m)->(C.length<=10000)->(∀d,S.fresh d->Q .none ((S.uL d []).uL Y ((markL C).map .int)))->l
def lR(q:Addr)(Q:PE)(S:AH):Prop:=Ch (lQ q Q S)
def Rk:List AV->PE->AH->Prop:=
 aO λq=>aN λQ S=>lR q Q S
def Dn (R:Ap)(B:Int):Bool:=if R.op=3 then decide (Ab R.arg B=R.arg) else decide (R.op=5)||decide (R.op=2)
def Rl:List AV->PE->AH->Prop:=
 aO λi=>aI λB=>aN λQ S=>∃R,Bs S i R/\Q (.bool (Dn R B)) S
set_option tactic.hygienic true in
def Y6(S:AH)(d:Addr)(h:S.A1 d=some l):S.uL d l=S:=by
 exact AO (λf=>{S with A1:=f}) (funext λb=>by
  refine(?_:(if b=d then some l else S.A1 b)=S.A1 b);split
  ·rename_i e;rw[e,h]
  ·rfl)
def IH:Tb:=(20,KD)::(22,Rg)::(23,Rh)::(24,Ri)::(25,KG)::(27,Rj)::(28,Rk)::(31,Rl)::Rc
section
variable{I:Ag}(S:AU I IH)
include S
theorem lS:Vc I 5 0 Wb KD:=λa Q S h=>by
 apply Bh h;clear h;intro s _ h;apply G5 h;clear h;intro n _ h;apply G5 h;clear h;intro x _ h;apply G5 h;clear h;intro f _ h;apply G5 h;clear h;intro C _ h;apply DM h;clear h;intro h;refine⟨rfl,?_⟩;refine Ac (λH h=>?_) h;exists H,by decide,H,by decide,H,by decide,H,by decide
 intro d hd;exists H,by decide
 exact h d hd
theorem lT:Vc I 1 0 Wc Rg:=λa Q S h=>by
 apply Cu h;clear h;intro s h;refine⟨rfl,?_⟩;refine AJ h λf H h=>?_;haveI e:decide (Ab f 128≠0)= !decide (Ab f 128=0):=decide_not;rw[e] at h;exists H,trivial;exact h
theorem lU:Vc I 1 0 Wd Rh:=λa Q S h=>by
 apply Cu h;clear h;intro s h;refine⟨rfl,?_⟩;refine AJ h λf H h=>?_;exists H,(show (0:Int)<=8 by decide);exact h
theorem lV:Vc I 1 0 We KG:=λa Q S h=>by
 apply Cu h;clear h;intro q h;refine⟨rfl,?_⟩;refine Ac (λH h=>?_) h;refine A8 (AN rfl) λd hd=>?_;exists H,by decide
 intro e f;exists H,by decide
 exact h d hd e f
theorem lW:Vc I 2 0 Wf Rj:=λa Q S h=>by
 apply Eb h;clear h;intro q i h;refine⟨rfl,?_⟩;refine h _ λC M O m V H A0 R l=>?_;exists V.IG,V.set,BE H (AN rfl);refine Ai (λg=>R g) λg=>?_;exists V.IG,V.set,V.set,BE H (AN rfl),g,.inl rfl,V.FH,V.A1,V.A1,rm (BE A0 (AN rfl)),.inl rfl;haveI:=l g;rw[CX] at this;exact this
theorem lX:Vc I 2 0 Wj Rl:=λa Q S h=>by
 apply Eb h;clear h;intro i B h;refine⟨rfl,?_⟩;refine AJ h λR V h=>?_;unfold Dn at h;exists V.op;refine Ai (λg=>?_) λg=>?_
 ·have h:=(A6 g)▸h;exists V.arg,trivial,V.arg;exact h
 ·rw[A5 g] at h;exists V.op;refine Ai (λG=>?_) λG=>?_
  ·rw[Bg G] at h;exact h
  ·rw[C0 G] at h;exists V.op;exact h
omit S in
theorem lY(h:l≠[]):BF (-1) l.length=some (l.length-1):=by
 haveI:=List.length_pos_iff.2 h;unfold BF;rw[A5 (by decide),A6 (A3 0x2c81010a00a40100041 [_] [] this)];exact AO some (Ae 0x52420004a82802408041 [_] [])
theorem lZ:Vc I 1 0 Wg Rk:=λa Q S h=>by
 apply Cu h;clear h;intro q h;refine⟨rfl,?_⟩;refine h _ λY A0 C m V M h=>?_;exists V.FH,AN rfl;intro d hd;have E:(S.uL d []).A1 Y=some (C.map .int):=(BI (BQ hd V.A1)).trans V.A1;have h:=h d hd;unfold markL at h;exists E,AY;refine A8 (IB _) (FE (λg=>?_) λg=>BW ?_)
 ·have H:C≠[]:=λe=>g (by rw[e];rfl);haveI c:=Ik H;generalize C.getLast H=z at c;haveI o:(C.map AV.int)[(C.map AV.int).length-1]?=some (.int z):=by rw[Ak,Bb,<-List.getLast?_eq_getElem?,c];rfl
  haveI P:BF (-1) (C.map AV.int).length=some ((C.map AV.int).length-1):=lY g;exists V.FH,BC (Ae 0x2c81013b9aca0030c00 [] []) (Ae 0x17dcd6500186408000 [] []),E,P,o;have h:=(c)▸h;refine DL (λG=>?_) λG=>?_
  ·rw[A5 (λw=>w.elim H λw=>G (BL w)),CX] at h;exists V.FH,E,E,rm (BE M (AN rfl)),.inl rfl;exact h
  ·rw[A6 (.inr (AO some G)),Y6 _ _ E] at h;exact h
 ·rw[A6 (.inl (List.map_eq_nil_iff.1 g)),Y6 _ _ E] at h;exact h
def Y7(H:D.cls s=some 266)(l:D.A4 s 20=some (.int f))(h:Q (.int (if t=decide (Ab f 128≠0) then AQ b 32 else AQ b 16)) D):
  AP I (Nq.drop 4) (BB Q) [some (.obj s),some (.int o),some (.int b),some (.bool t)] D:=by
 exists H,BU S.m (by decide+kernel:Am 266 4=some 22);refine sp_i (S.g 22 rfl) ⟨f,l,Lf (λg=>?_) λg=>?_⟩
 ·rw[A6 g] at h;exact A8 trivial h
 ·rw[A5 g] at h;exact A8 trivial h
def Rm(H:D.cls s=some 266)(l:D.A4 s 20=some (.int f))(h:Q (.int (if(decide (o≠256)&&Bi o)=decide (Ab f 128≠0) then AQ b 32 else AQ b 16)) D):
  AP I (Nq.drop 3) (BB Q) [some (.obj s),some (.int o),some (.int b),none] D:=by
 refine DL (λg=>?_) λg=>?_
 ·rw[Bg g] at h;exact sp_i (S.g 0 rfl) (Y7 S H l h)
 ·rw[C0 (λw=>w g)] at h;exact Y7 S H l h
def lb:Vc I 2 2 Nq Ri:=λa Q D h=>by
 apply Eb h;clear h;intro s o h;refine⟨rfl,?_⟩;refine BX h λf R H h=>?_;unfold G8 at h;exists R,BU S.m (by decide+kernel:Am 266 5=some 23);refine sp_i (S.g 23 rfl) ⟨f,H,Ai (λg=>?_) λg=>?_⟩
 ·rw[A6 g] at h;exact h
 rw[A5 g] at h;exists H,trivial;refine Ai (λG=>?_) λG=>Ai (λW=>?_) λW=>?_
 ·haveI h:Q (.int (if(decide (o≠256)&&Bi o)=decide (Ab f 128≠0) then AQ (if o=256 then AQ (AQ (Ab f 63) 2) 8 else if o=10 then AQ (Ab f 63) 2 else Ab f 63) 32 else AQ (if o=256 then AQ (AQ (Ab f 63) 2) 8 else if o=10 then AQ (Ab f 63) 2 else Ab f 63) 16)) D:=h;haveI h:=(A6 G)▸h;exact A8 trivial (A8 trivial (Rm S R H h))
 ·haveI h:Q (.int (if(decide (o≠256)&&Bi o)=decide (Ab f 128≠0) then AQ (if o=256 then AQ (AQ (Ab f 63) 2) 8 else if o=10 then AQ (Ab f 63) 2 else Ab f 63) 32 else AQ (if o=256 then AQ (AQ (Ab f 63) 2) 8 else if o=10 then AQ (Ab f 63) 2 else Ab f 63) 16)) D:=h;rw[A5 G,A6 W] at h;exact A8 trivial (Rm S R H h)
 ·haveI h:Q (.int (if(decide (o≠256)&&Bi o)=decide (Ab f 128≠0) then AQ (if o=256 then AQ (AQ (Ab f 63) 2) 8 else if o=10 then AQ (Ab f 63) 2 else Ab f 63) 32 else AQ (if o=256 then AQ (AQ (Ab f 63) 2) 8 else if o=10 then AQ (Ab f 63) 2 else Ab f 63) 16)) D:=h;rw[A5 G,A5 W] at h;exact Rm S R H h
end
def Gp (a:Int)(R:Ap):Int:=if R.op=3 then AQ a R.arg else a
def Rn (a:Int):Int:=AQ (if Ab a (AQ 16 32)=0 then a else AQ a 128) 64
def DN (P:AM):Int:=Rn (P.AG.foldl Gp 0)
def Ro:List AV->PE->AH->Prop:=
 aO λp=>aN λQ S=>∃C a P,BJ S p C a P/\Q (.int (DN P)) S
def lg(S:AH)(r p C:Addr)(a:List Addr)(P:AM)(K:Int)(c:Addr)(I:List Int)(l:Prop):Prop:=
 (S.cls r=some 479)->(S.A4 r 25=some (.obj p))->(S.A4 r 26=some (.int K))->(S.A4 r 27=some (.int (DN P)))->(S.A4 r 28=some (.obj c))->(S.A1 c=some (I.map .int))->(BJ S p C a P)->l
def Cg(S:AH)(r p C:Addr)(a:List Addr)(P:AM)(K:Int)(c:Addr)(I:List Int):Prop:=Ch (lg S r p C a P K c I)
section
variable(zh:Cg σ r p il as P zQ lh cs)
def Cg.cls:=zh _ λz Z Z Z Z Z Z=>z
def Cg.prog:=zh _ λZ z Z Z Z Z Z=>z
def Cg.kind:=zh _ λZ Z z Z Z Z Z=>z
def Cg.kept:=zh _ λZ Z Z z Z Z Z=>z
def Cg.Y8:=zh _ λZ Z Z Z z Z Z=>z
def Cg.cl:=zh _ λZ Z Z Z Z z Z=>z
def Cg.pv:=zh _ λZ Z Z Z Z Z z=>z
end
noncomputable def OB (P:AM)(K i:Int):Bool:=decide (K=1)&&(decide (i=P.loose)&&!decide (P.loose=P.start))
def lj(r:Addr)(i:Int)(Q:PE)(S:AH)(l:Prop):Prop:=
 ∀p C a P K c I,(Cg S r p C a P K c I)->(Q (.bool (OB P K i)) S)->l
def lk(r:Addr)(i:Int)(Q:PE)(S:AH):Prop:=Ch (lj r i Q S)
def Rp:List AV->PE->AH->Prop:=
 aO λr=>aI λi=>aN λQ S=>lk r i Q S
def Fe (r:Bool)(t:List Int)(a:Int):Int:=
 let h:=if r=true then a else a-1
 if h<0\/(t.length:Int)<=h then AQ 4 1 else Bx (t.getD h.toNat 0)
def lq(r:Addr)(t:List Int)(a:Int)(Q:PE)(S:AH)(l:Prop):Prop:=
 ∀p C A P K c I,(Cg S r p C A P K c I)->(room t.length)->(0<=a)->(a<=t.length)->(Q (.int (Fe P.rev t a)) S)->l
def lr(r:Addr)(t:List Int)(a:Int)(Q:PE)(S:AH):Prop:=Ch (lq r t a Q S)
def Rq:List AV->PE->AH->Prop:=
 aO λr=>aY λt=>aI λa=>aN λQ S=>lr r t a Q S
def Lp:Tb:=(30,Ro)::(35,Rp)::(42,Rq)::IH
def lu(p:Addr)(R:List Ap)(r:Int)(S:AH)(i:Nat)(L:AE)(t:AH)(l:Prop):Prop:=
 ∀x m,t=S->L=[some (.obj p),some (.int x),m]->(R.drop i).foldl Gp x=r->l
def ly(p:Addr)(R:List Ap)(r:Int)(S:AH)(i:Nat)(L:AE)(t:AH):Prop:=Ch (lu p R r S i L t)
section
variable{I:Ag}(S:AU I Lp)
include S
theorem lz:Vc I 2 1 Wo Rp:=λa Q S h=>by
 apply Eb h;clear h;intro r i h;refine⟨rfl,?_⟩;refine h _ λp C A P K c o V h=>?_;unfold OB at h;exists V.prog,V.kind;refine Ai (λg=>?_) λg=>?_
 ·rw[Bg g] at h;exists V.pv.loose;refine Ai (λg=>?_) λg=>?_
  ·rw[Bg g] at h;exists V.pv.loose,V.pv.start;exact h
  ·rw[C0 g] at h;exact h
 ·rw[C0 g] at h;exact h
def Y9(H:room t.length)(W:x<=t.length)(h:Q (.int (if x<0\/(t.length:Int)<=x then AQ 4 1 else Bx (t.getD x.toNat 0))) D):
  AP I (Qi.drop 1) (BB Q) [some (.obj r),some (.bytes t),some (.int a),some (.int x)] D:=by
 haveI L:t.length<=1000000:=H;refine Ai (λg=>?_) λg=>A8 H (Ai (λG=>?_) λG=>?_)
 ·rw[A6 (.inl g)] at h;exact CT (A8 trivial h)
 ·rw[A6 (.inr G)] at h;exact A8 trivial h
 ·rw[A5 (λw=>w.elim g G)] at h;haveI g:=Int.not_lt.1 g;haveI G:=Int.not_le.1 G;exists BC (i:=x) (A3 0x58044ee6b2800c32300000840 [] [_] (by assumption)) (AK 0xbee6b2800c30091e84804180245804500441 [_] [_] L (by assumption)),H,g,JM g G;exact sp_i (S.g 29 rfl) (h)
def m4:Vc I 3 1 Qi Rq:=λA Q D h=>by
 apply Bh h;clear h;intro r _ h;apply EZ h;clear h;intro t _ h;apply Fd h;clear h;intro a h;refine⟨rfl,?_⟩;refine h _ λp C w P K c o V v E H h=>?_;exists V.prog,V.pv.rev;haveI h:Q (.int (let h:=if P.rev=true then a else a-1;if h<0\/(t.length:Int)<=h then AQ 4 1 else Bx (t.getD h.toNat 0))) D:=h;refine Cf (λg=>?_) λg=>A8 trivial ?_
 ·rw[A6 g] at h;exact Y9 S v H h
 ·rw[A5 g] at h;exact Y9 S v (Em (Int.sub_le_self _ (by decide)) H) h
theorem m5:Vc I 1 2 Wi Ro:=λd Q S h=>by
 apply Cu h;clear h;intro p h;refine⟨rfl,?_⟩;refine aq h λf w P V h=>?_;haveI h:Q (.int (DN P)) S:=h;unfold DN at h;exists V.AG,Er V.A1;refine DY (ly p P.AG (P.AG.foldl Gp 0) S) (λZ B=>B 0 none rfl rfl rfl) ?_ ?_ ?_
 ·intro i L t c;refine c _ λx m e Z Z=>?_;rw[e];exact V.A1
 ·intro i v L t K F c r D _ _ _;refine c _ λx m j G H=>?_;rcases j with rfl;rcases G with rfl
  rw[Bb] at r;refine AJ (BY.1 r) λa M E=>?_;subst E;rw[Ak,V.len] at F;haveI A:=Aw F;generalize P.AG[i]=R at A;haveI C:=V.inst i a R M A;rw[F9 A,Im] at H;refine⟨_,rfl,?_⟩;exists C.op;refine Ai (λg=>?_) λg=>?_
  ·exists C.arg,trivial;exact D _ _ (λZ B=>B (AQ x R.arg) _ rfl rfl (by rw[<-H,Gp,A6 g]))
  ·exact D _ _ (λZ B=>B x _ rfl rfl (by rw[<-H,Gp,A5 g]))
 ·intro L t c;refine c _ λx m y Y H=>?_;rcases y with rfl;rcases Y with rfl
  rw[Ak,V.len,Fx] at H;haveI H:x=P.AG.foldl Gp 0:=H;haveI h:=(H).symm▸h;unfold Rn at h;refine A8 trivial (A8 trivial (DL (λg=>?_) λg=>?_))
  ·haveI g:¬Ab x (AQ 16 32)=0:=g;rw[A5 g] at h;exact A8 trivial (A8 trivial h)
  ·haveI g:Ab x (AQ 16 32)=0:=g;rw[A6 g] at h;exact A8 trivial h
end
noncomputable def AM.get (P:AM)(i:Int):Ap:=P.AG.getD i.toNat ⟨6,0,0,0,0,false,true⟩
def AM.m6(P:AM)(l:Prop):Prop:=
 (P.AG.length<=20)->(0<P.AG.length)->(∀i:Int,0<=i->i<P.AG.length->(P.get i).last=false->i+1<P.AG.length)->(∀i:Int,0<=i->i<P.AG.length->0<=(P.get i).out/\(P.get i).out<P.AG.length)->(0<=P.start/\P.start<P.AG.length)->(0<=P.loose/\P.loose<P.AG.length)->(∀i:Int,0<=i->i<P.AG.length->0<=(P.get i).arg/\(P.get i).arg<64)->l
def AM.Ok(P:AM):Prop:=Ch (AM.m6 P)
section
variable(zh:AM.Ok P)
def AM.Ok.len:=zh _ λz Z Z Z Z Z Z=>z
def AM.Ok.pos:=zh _ λZ z Z Z Z Z Z=>z
def AM.Ok.last:=zh _ λZ Z z Z Z Z Z=>z
def AM.Ok.out:=zh _ λZ Z Z z Z Z Z=>z
def AM.Ok.start:=zh _ λZ Z Z Z z Z Z=>z
def AM.Ok.loose:=zh _ λZ Z Z Z Z z Z=>z
def AM.Ok.arg:=zh _ λZ Z Z Z Z Z z=>z
end
def BJ.at{I:AH}{p C:Addr}{A:List Addr}{P:AM}(h:BJ I p C A P){i:Int}(E:0<=i)(Q:i<P.AG.length):
  ∃a,A[i.toNat]?=some a/\Bs I a (P.get i)/\BF i A.length=some i.toNat:=by
 haveI H:=h.len;haveI S:i.toNat<A.length:=by exact CA 0x48025009601000c284201282100482 [_,_] [_] E Q H
 refine⟨A[i.toNat],?_,h.inst i.toNat _ _ (Aw S) ?_,Dm E (AK 0x30a00804c284201282100482 [_,_] [_] Q H)⟩
 ·rw[Aw S]
 ·unfold AM.get;rw[List.getD,Aw (by exact AK 0x24012804a004214842500882 [_,_] [_] H S:i.toNat<P.AG.length)];rfl
noncomputable def Lr:Nat->AM->Int->Bool
 | 0,_,_=>false
 | n+1,P,i=>if(P.get i).last=true then false else if(P.get (i+1)).op=4 then true else Lr n P (i+1)
def m7:Lr (n+1) P i=if(P.get i).last=true then false else if(P.get (i+1)).op=4 then true else Lr n P (i+1):=rfl
noncomputable def Lu (P:AM)(i:Int):Bool:=
 if(P.get i).op=1/\(P.get i).B1=0/\(P.get i).Ax=255/\(P.get i).out=i then Lr (P.AG.length-i.toNat) P i else false
def mA(p:Addr)(i:Int)(Q:PE)(S:AH)(l:Prop):Prop:=
 ∀C a P,(BJ S p C a P)->(P.Ok)->(0<=i)->(i<P.AG.length)->(Q (.bool (Lu P i)) S)->l
def mB(p:Addr)(i:Int)(Q:PE)(S:AH):Prop:=Ch (mA p i Q S)
def Rr:List AV->PE->AH->Prop:=
 aO λp=>aI λi=>aN λQ S=>mB p i Q S
def Rt:Tb:=(32,Rr)::Lp
section
variable{I:Ag}(S:AU I Rt)
include S
theorem mD:Vc I 2 1 Wk Rr:=λe Q S h=>by
 apply Eb h;clear h;intro p i h;refine⟨rfl,?_⟩;refine h _ λY D P V K E R h=>?_;haveI h:Q (.bool (Lu P i)) S:=h;unfold Lu at h;haveI M:=K.len;have w:∀j:Int,0<=j->j<P.AG.length->word j:=λj a b=>BC (A3 0x2c0227735940061ac0200040 [] [_] a) (AK 0x5f7359400618048a00016140100841 [_] [_] M b);refine BX (V.at E R) λa q1 v A=>?_;have N:¬((P.get i).op=1/\(P.get i).B1=0/\(P.get i).Ax=255/\(P.get i).out=i)->Q (.bool false) S:=λg=>by rw[A5 g] at h;exact h
 exists V.AG;refine(DX (w i E R) V.A1 (Gk A) (Gl q1) ?_:);exists v.op;refine DL (λg=>CT (N λw=>g w.1)) (λG=>?_);exists v.B1;refine DL (λg=>CT (N λw=>g w.2.1)) (λW=>?_);exists v.Ax;refine DL (λg=>CT (N λw=>g w.2.2.1)) (λo=>?_);exists v.out;refine DL (λg=>N λw=>g w.2.2.2) (λr=>?_);rw[A6 ⟨G,W,o,r⟩] at h;refine⟨λn l t=>t=S/\∃j,l=[some (AV.obj p),some (AV.int j),some (AV.obj a)]/\0<=j/\j<P.AG.length/\n=P.AG.length-j.toNat/\Q (.bool (Lr n P j)) S,⟨_,rfl,i,rfl,E,R,rfl,h⟩,?_⟩;intro n l t d;obtain ⟨rfl,j,rfl,A0,F,T,H⟩:=d;refine BX (V.at A0 F) λb r1 r2 r3=>?_;obtain ⟨m,rfl⟩:∃m,n=m+1:=⟨n-1,by exact CA 0xa4040908001005601000c28420129250082100482 [_,_] [_] A0 F T⟩;rw[m7] at H;exists V.AG;refine(DX (w j A0 F) V.A1 (Gk r3) (Gl r1) ?_:);exists r2.last;cases g:(P.get j).last with
 | false=>
  have C:=K.last j A0 F g;refine BX (V.at (i:=j+1) (A3 0x2d010004002c0200040 [] [_] A0) C) λc B t2 t3=>?_;rw[A5 (by rw[g];simp)] at H;refine CT ?_;exists trivial,V.AG;refine(DX (w (j+1) (A3 0x2d010004002c0200040 [] [_] A0) C) V.A1 (Gk t3) (Gl B) ?_:);exists t2.op;refine Ai (λg=>?_) (λg=>?_)
  ·rw[A6 g] at H;exact H
  ·rw[A5 g] at H;exact⟨m,GQ m,rfl,j+1,rfl,by exact A3 0x2d010004002c0200040 [] [_] A0,C,by exact AK 0x292540400104200ac0200149280410a02000482 [_,_] [_] A0 T,H⟩
 | true=>rw[A6 g] at H;exact BW H
end
noncomputable def Ff:List Int->List Int->List Int->List Int
 | [],part,found=>found++sortI part
 | h::H,part,found=>if h= -1 then Ff H [] (found++sortI part++[-1]) else Ff H (part++[h]) found
def Ru{H p f:List Int}:Ff (h::H) p f=if h= -1 then Ff H [] (f++sortI p++[-1]) else Ff H (p++[h]) f:=rfl
def YA:Ff [] p f=f++sortI p:=rfl
def mE(S t:AH)(m:Prop):Prop:=
 (t.cls=S.cls)->(t.A4=S.A4)->(t.set=S.set)->(t.AL=S.AL)->(t.AZ=S.AZ)->(∀a l,S.A1 a=some l->t.A1 a=some l)->m
def D2(S t:AH):Prop:=Ch (mE S t)
section
variable(zh:D2 σ A7)
def D2.cls:=zh _ λz Z Z Z Z Z=>z
def D2.A4:=zh _ λZ z Z Z Z Z=>z
def D2.set:=zh _ λZ Z z Z Z Z=>z
def D2.AL:=zh _ λZ Z Z z Z Z=>z
def D2.AZ:=zh _ λZ Z Z Z z Z=>z
def D2.A1:=zh _ λZ Z Z Z Z z=>z
end
def D2.refl{S:AH}:D2 S S:=(λZ B=>B rfl rfl rfl rfl rfl (λZ Z h=>h))
def D2.uL(h:D2 S t)(n:S.A1 a=none):D2 S (t.uL a l):=by
 refine(λZ B=>B h.cls h.A4 h.set h.AL h.AZ (λb m q=>?_));haveI:b≠a:=by rintro rfl;exact nO q n
 refine(?_:(if b=a then some l else t.A1 b)=some m);rw[A5 this];exact h.A1 b m q
def D2.none(h:D2 S t)(n:t.A1 a=none):S.A1 a=none:=by
 cases e:S.A1 a with
 | none=>rfl
 | some l=>exact nO (h.A1 a l e) n
def Rv:List AV->PE->AH->Prop:=
 aO λH=>aN λQ S=>∃h:List Int,S.A1 H=some (h.map .int)/\h.length<64/\
   ∀E r,D2 S E->S.A1 r=none->E.A1 r=some ((Ff h [] []).map .int)->Q (.obj r) E
def ints_map(l:List Int):Dx (l.map AV.int)=some l:=cy l
def mF(a:Int)(l:List Int):(insI a l).length=l.length+1:=by
 induction l with
 | nil=>rfl
 | cons b l C=>rw[It];split<;>simp[C]
def JP(l:List Int):(sortI l).length=l.length:=by
 induction l with
 | nil=>rfl
 | cons a l C=>show (insI a (sortI l)).length=_;rw[mF,C];rfl
def Rx:Tb:=(33,Rv)::Rt
def mG(S:AH)(H d:Addr)(h r:List Int)(i:Nat)(L:AE)(t:AH)(l:Prop):Prop:=
 ∀p f e m,L=[some (.obj H),some (.obj d),some (.obj e),m]->e≠d->S.A1 e=none->D2 S t->t.A1 d=some (f.map .int)->t.A1 e=some (p.map .int)->Ff (h.drop i) p f=r->p.length<=i->f.length+p.length<=2*i->l
def mH(S:AH)(H d:Addr)(h r:List Int)(i:Nat)(L:AE)(t:AH):Prop:=Ch (mG S H d h r i L t)
section
variable{I:Ag}(S:AU I Rx)
include S
theorem mI:Vc I 1 3 Wl Rv:=λargs Qa S h=>by
 apply Cu h;clear h;intro U h;refine⟨rfl,?_⟩;refine BX h λw Q n h=>?_;refine A8 (AN rfl) λd hd=>A8 (AN rfl) λe v=>A8 (AN rfl) ?_;have nd:S.A1 d=none:=hd.2.1;haveI D:d≠e:=BQ v AY;haveI R:S.A1 e=none:=(BI (C1 D)).symm.trans v.2.1;haveI K:D2 S ((S.uL d []).uL e []):=(D2.refl.uL nd).uL R;exists Er (K.A1 _ _ Q);refine DY (mH S U d w (Ff w [] [])) (λZ B=>B [] [] e none rfl (C1 D) R K ((BI D).trans AY) AY rfl (Nat.le_refl _) (Nat.le_refl _)) ?_ ?_ ?_
 ·intro i L T a;refine a _ λp F E m Z Z Z k Z Z Z Z Z=>?_;exact k.A1 _ _ Q
 ·intro i va L T Ka A0 a A X kc _ _;refine a _ λp F E m Y N G k f q H l o=>?_;rcases Y with rfl
  rw[Bb] at A;refine AJ (BY.1 A) λx W Br=>?_;subst Br;rw[Ak] at A0;haveI r:i<64:=Nat.lt_trans A0 n;rw[F9 W,Ru] at H;refine⟨_,rfl,?_⟩;refine DL (λg=>?_) λg=>?_
  ·rw[A5 g] at H;exists q,q,rm (BE l (BE (Nat.le_of_lt r) (AN rfl))),.inl rfl;exact kc _ _ (λZ B=>B (p++[x]) F E _ rfl N G (k.uL G) ((BI (C1 N)).trans f) (by rw[AY,CX];rfl) H (by rw[CE];exact Nat.succ_le_succ l) (by rw[CE,List.length_singleton];exact A3 0x408c8080414202008401408c20a021004c3 [_,_,_] [] o))
  ·rw[A6 g] at H;exists f,q,ints_map _,(show p.length<64 by exact AK 0x91004300501080291004308482 [_,_] [] l r);intro c C;haveI j:=JP p;haveI O:(F++sortI p).length<=128:=by rw[CE,j];exact AK 0x820043404200a046105010802910043104c3 [_,_,_] [] o r
   exists (BI (BQ C f)).trans f,AY;rw[<-CX];refine A8 (by rw[<-CE,<-CX];exact rm (BE O (AN rfl))) (A8 (.inl rfl) ?_);exists AY,AY,rm (BE O (AN rfl)),.inl rfl,AN rfl;intro b t;haveI M:=((k.uL (l:=(sortI p).map .int) (k.none C.2.1)).uL (l:=(F++sortI p).map .int) nd).uL (l:=(F++sortI p).map .int++[AV.int (-1)]) nd;haveI P:=M.none t.2.1;haveI V:d≠b:=BQ t AY;exact X _ _ (λZ B=>B [] (F++sortI p++[-1]) b _ rfl (C1 V) P (M.uL P) (by rw[BI V,AY,CX (l₂:=[-1])];rfl) AY H (Nat.zero_le _) (by rw[CE,CE,j];simp only[List.length_singleton,List.length_nil];exact A3 0x2046404020a0004040808401408c20a021004c3 [_,_,_] [] o))
 ·intro L T a;refine a _ λp F E m y N G k f q H l o=>?_;rcases y with rfl
  rw[Ak] at H l o;rw[Fx,YA] at H;exists f,q,ints_map _,(show p.length<64 by exact AK 0x91004300522008610a02100482 [_,_] [] n l);intro c C;haveI j:=JP p;exists (BI (BQ C f)).trans f,AY;rw[<-CX];refine A8 (by rw[<-CE,<-CX];refine rm (BE (m:=128) ?_ (AN rfl));rw[CE,j];exact AK 0x820043404200a44010c41408c20a021004c3 [_,_,_] [] n o) (A8 (.inl rfl) ?_);exact h _ d ((k.uL (k.none C.2.1)).uL nd) nd (by rw[AY,H])
end
def JQ (K:Int)(h:List Int):List Int:=if K=1 then Ff h [] [] else if K=2 then sortI h else h
def Ry:List AV->PE->AH->Prop:=
 aO λr=>aO λH=>aN λQ S=>∃K,∃h:List Int,S.A4 r 26=some (.int K)/\S.A1 H=some (h.map .int)/\h.length<64/\
   ∀E x,D2 S E->E.A1 x=some ((JQ K h).map .int)->Q (.obj x) E
noncomputable def JR (P:AM)(K:Int):List Int->Bool
 | []=>false
 | i::is=>if i= -1 then false else if Lu P i=true then true else if K=0 then false else JR P K is
def mJ{P:AM}{K i:Int}{C:List Int}:JR P K (i::C)=if i= -1 then false else if Lu P i=true then true else if K=0 then false else JR P K C:=rfl
def mK{P:AM}{K:Int}:JR P K []=false:=rfl
def Lv (P:AM)(K:Int)(C:List Int):Bool:=if K=2 then false else JR P K C
def mL(r:Addr)(q:Addr)(Q:PE)(S:AH)(l:Prop):Prop:=
 ∀p Y a P K c I f M C m,(Cg S r p Y a P K c I)->(P.Ok)->(CI S q f M C m)->((∀i∈C,i= -1\/(0<=i/\i<P.AG.length)))->(Q (.bool (Lv P K C)) S)->l
def mM(r:Addr)(q:Addr)(Q:PE)(S:AH):Prop:=Ch (mL r q Q S)
def Rz:List AV->PE->AH->Prop:=
 aO λr=>aO λq=>aN λQ S=>mM r q Q S
def OC:Tb:=(40,Ry)::(41,Rz)::Rx
def mN(r q:Addr)(P:AM)(K:Int)(C:List Int)(S:AH)(i:Nat)(L:AE)(t:AH)(l:Prop):Prop:=
 ∀m,t=S->L=[some (.obj r),some (.obj q),m]->JR P K (C.drop i)=JR P K C->l
def mO(r q:Addr)(P:AM)(K:Int)(C:List Int)(S:AH)(i:Nat)(L:AE)(t:AH):Prop:=Ch (mN r q P K C S i L t)
section
variable{I:Ag}(S:AU I OC)
include S
def mP:Vc I 2 0 Wr Ry:=λA Q D h=>by
 apply KA h;clear h;intro r M h;refine⟨rfl,?_⟩;refine UN h λB p R H K h=>?_;unfold JQ at h;exists R;refine Ai (λg=>sp_i (S.g 33 rfl) ⟨p,H,K,λE x k Z e=>h E x k (by rw[A6 g];exact e)⟩) λg=>?_;exists R;refine Ai (λG=>?_) λG=>h D M .refl (by rw[A5 g,A5 G];exact H);exists H,ints_map _,K;exact λa L=>h _ a (D2.refl.uL L.2.1) (by rw[AY,A5 g,A6 G])
def mQ:Vc I 2 1 Ws Rz:=λd Q N h=>by
 apply KA h;clear h;intro r q h;refine⟨rfl,?_⟩;refine h _ λp C A P D w o f x O v V K U X h=>?_;unfold Lv at h;exists V.kind;refine Ai (λg=>by rw[A6 g] at h;exact h) λg=>?_;rw[A5 g] at h;exists U.FH,Er U.A1;refine DY (mO r q P D O N) (λZ B=>B none rfl rfl rfl) ?_ ?_ ?_
 ·intro i L T a;refine a _ λm e Z Z=>?_;rw[e];exact U.A1
 ·intro j va L T R F a t E _ _ c;refine a _ λm n A0 H=>?_;rcases n with rfl;rcases A0 with rfl
  rw[Bb] at t;refine AJ (BY.1 t) λi W M=>?_;subst M;rw[F9 W,mJ] at H;rw[<-H] at h;refine⟨_,rfl,?_⟩;refine Ai (λg=>?_) λg=>?_
  ·rw[A6 g] at h;exact c _ _ _ h
  rw[A5 g] at h H;haveI F:=(X i (Bj W)).resolve_left g;exists V.prog;refine sp_i (S.g 32 rfl) (λZ B=>B C A P V.pv K F.1 F.2 (Cf (λG=>?_) λG=>?_))
  ·rw[A6 G] at h;exact c _ _ _ h
  rw[A5 G] at h H;exists V.kind;refine Ai (λl=>?_) λl=>?_
  ·rw[A6 l] at h;exact c _ _ _ h
  rw[A5 l] at H;exact E _ _ (λZ B=>B _ rfl rfl H)
 ·intro L T a;refine a _ λm y Y H=>?_;rcases y with rfl;rcases Y with rfl
  rw[Ak,Fx,mK] at H;haveI h:=(H).symm▸h;exact h
end
def S2:List AV->PE->AH->Prop:=
 aO λr=>aO λp=>aI λK=>aN λQ S=>S.cls r=some 479/\∃C a P,BJ ((S.uF r 25 (.obj p)).uF r 26 (.int K)) p C a P/\
   JO [.obj p] (λv E=>E.cls r=some 479/\Q .none (E.uF r 28 v)) (((S.uF r 25 (.obj p)).uF r 26 (.int K)).uF r 27 (.int (DN P)))
def S3:Tb:=(34,S2)::OC
section
variable{I:Ag}(S:AU I S3)
include S
def mR:Vc I 3 0 Wm S2:=λj Q D h=>by
 apply Lh h;clear h;intro r p K h;refine⟨rfl,?_⟩;obtain ⟨H,C,as,P,V,h⟩:=h;exists H,by decide,H,by decide
 refine sp_i (S.g 30 rfl) ⟨C,as,P,V,?_⟩;exists H,by decide
 refine sp_i (S.g 10 rfl) ?_;haveI mono:∀(g X:PE) (t:AH),(∀v D,g v D->X v D)->JO [.obj p] g t->JO [.obj p] X t:=λg X t m w=>by
  obtain ⟨A,W,B,f⟩| ⟨C,as,P,W,B,f,Y,F⟩:=w
  ·exact .inl ⟨A,W,B,m _ _ f⟩
  ·exact .inr ⟨C,as,P,W,B,f,Y,λE A a b c d e=>m _ _ (F E A a b c d e)⟩
 refine mono _ _ _ (λv E w=>?_) h;exact pO_i w.1 ⟨by decide,w.2⟩
end
def mS(r:Addr)(h:AV)(f:Int)(C:AV)(Q:PE)(S:AH)(l:Prop):Prop:=
 ∀D T m k,(S.A4 r 31=some (.obj D))->(S.AZ D=some T)->(S.A4 r 29=some (.int m))->((AV.AA [h,.int f,C]).Kx=some k)->(room T.length)->(S.cls r≠none)->((∀s,EW T k=some s->Q s S))->((EW T k=none->m<=T.length->Q .none S))->((EW T k=none->T.length<m->∀s,S.fresh s->∀d,(S.uN s 266).fresh d->
    Q (.obj s) ((((((((S.uN s 266).uF s 19 (.int T.length)).uF s 15 h).uF s 20 (.int f)).uF s 21 C).uI d []).uF s 22 (.obj d)).uT D (GY T k (.obj s)))))->l
def mU(r:Addr)(h:AV)(f:Int)(C:AV)(Q:PE)(S:AH):Prop:=Ch (mS r h f C Q S)
def OD:List AV->PE->AH->Prop:=
 aO λr=>aA λh=>aI λf=>aA λC=>aN λQ S=>mU r h f C Q S
def II:Tb:=(21,CN KD 266)::(45,OD)::S3
def mV(h:EW T k=none):EW (GY T k v) k=some v:=by
 unfold GY;rw[h];unfold EW at h⊢;haveI H:T.find? (λx=>decide (x.1=k))=none:=by
  cases e:T.find? (λx=>decide (x.1=k)) with
  | none=>rfl
  | some _=>rw[e] at h;cases h
 simp only[Option.isSome_none,Bool.false_eq_true,if_false];rw[List.find?_append,H];simp
section
variable{I:Ag}(S:AU I II)
include S
def mW:Vc I 4 1 Wt OD:=λargs Q σ h=>by
 apply Bh h;clear h;intro r _ h;apply G5 h;clear h;intro hs _ h;apply BN h;clear h;intro f _ h;apply G5 h;clear h;intro ids _ h;apply DM h;clear h;intro h;refine⟨rfl,?_⟩;refine h _ λdk T Bz k h1 h2 h3 h4 h5 h6 q1 q2 q3=>?_;refine A8 (AN rfl) ?_;exists h1,h4,h2;refine Xv (λhv=>?_) λs hv=>?_
 ·exists h1;refine Or.inr (Exists.intro _ (A8 h2 (A8 h5 ?_)));exists h3;refine Ai (λg=>q2 hv g) λg=>?_;exists h1;refine Or.inr (Exists.intro _ (A8 h2 (A8 h5 (sp_i (S.g 21 rfl) λs fs=>A8 (A6 rfl) λd fd=>A8 rfl ?_))));haveI rs:r≠s:=λw=>h6 (w▸fs.1);haveI e1:((((((((σ.uN s 266).uF s 19 (.int T.length)).uF s 15 hs).uF s 20 (.int f)).uF s 21 ids).uI d []).uF s 22 (.obj d))).A4 r 31=some (.obj dk):=by
   exact fo rs (fo rs (fo rs (fo rs (fo rs ((A5 rs).trans h1)))))
  exists e1,h2,h4,h5;haveI e4:(((((((((σ.uN s 266).uF s 19 (.int T.length)).uF s 15 hs).uF s 20 (.int f)).uF s 21 ids).uI d []).uF s 22 (.obj d))).uT dk (GY T k (.obj s))).AZ dk=some (GY T k (.obj s)):=A6 rfl;exists e1,e4,h4,mV hv;exact q3 hv (Int.not_le.1 g) s fs d fd
 ·exists h1,h2,h4,hv;exact q1 s hv
end
set_option genCtorIdx true in
inductive Pl| f| l| s| i| t
def mX(M:Pl->Addr->Prop)(S E:AH)(m:Prop):Prop:=
 (∀a c,S.cls a=some c->E.cls a=some c)->(∀a,S.cls a≠none->¬M .f a->E.A4 a=S.A4 a)->(∀a l,S.A1 a=some l->¬M .l a->E.A1 a=some l)->(∀a l,S.set a=some l->¬M .s a->E.set a=some l)->(∀a l,S.AL a=some l->¬M .i a->E.AL a=some l)->(∀a l,S.AZ a=some l->¬M .t a->E.AZ a=some l)->(∀a,E.fresh a->S.fresh a)->m
def KP(M:Pl->Addr->Prop)(S E:AH):Prop:=Ch (mX M S E)
section
variable{M:Pl->Addr->Prop}(zh:KP M σ Aq)
def KP.cls:=zh _ λz Z Z Z Z Z Z=>z
def KP.A4:=zh _ λZ z Z Z Z Z Z=>z
def KP.A1:=zh _ λZ Z z Z Z Z Z=>z
def KP.set:=zh _ λZ Z Z z Z Z Z=>z
def KP.AL:=zh _ λZ Z Z Z z Z Z=>z
def KP.AZ:=zh _ λZ Z Z Z Z z Z=>z
def KP.live:=zh _ λZ Z Z Z Z Z z=>z
end
namespace KP
variable{M N:Pl->Addr->Prop}{σ Bk DA:AH}
def refl:KP M σ σ:=(λZ B=>B (λZ Z h=>h) (λZ Z Z=>rfl) (λZ Z h Z=>h) (λZ Z h Z=>h) (λZ Z h Z=>h) (λZ Z h Z=>h) (λZ h=>h))
def trans(x:KP M σ Bk)(y:KP M Bk DA):KP M σ DA:=λZ B=>B
  (λa c h=>y.cls a c (x.cls a c h))
  (λa h n=>by
   refine AW (CD h) λc H=>?_;rw[y.A4 a (nn (x.cls a c H)) n,x.A4 a h n])
  (λa l h n=>y.A1 a l (x.A1 a l h n) n)
  (λa l h n=>y.set a l (x.set a l h n) n)
  (λa l h n=>y.AL a l (x.AL a l h n) n)
  (λa l h n=>y.AZ a l (x.AZ a l h n) n)
  (λa h=>x.live a (y.live a h))
def mono(x:KP M σ Bk)(h:∀p a,M p a->N p a):KP N σ Bk:=(λZ B=>B x.cls (λa q n=>x.A4 a q λm=>n (h _ a m)) (λa l q n=>x.A1 a l q λm=>n (h _ a m)) (λa l q n=>x.set a l q λm=>n (h _ a m)) (λa l q n=>x.AL a l q λm=>n (h _ a m)) (λa l q n=>x.AZ a l q λm=>n (h _ a m)) x.live)
def drop(x:KP (λp a=>M p a\/σ.fresh a) σ Bk):KP M σ Bk:=λZ B=>B
  (x.cls)
  (λa h n=>x.A4 a h λw=>w.elim n λf=>h f.1)
  (λa l h n=>x.A1 a l h λw=>w.elim n λf=>by exact nO h f.2.1)
  (λa l h n=>x.set a l h λw=>w.elim n λf=>by exact nO h f.2.2.1)
  (λa l h n=>x.AL a l h λw=>w.elim n λf=>by exact nO h f.2.2.2.1)
  (λa l h n=>x.AZ a l h λw=>w.elim n λf=>by exact nO h f.2.2.2.2)
  (x.live)
def tr(x:KP (λp a=>M p a\/σ.fresh a) σ Bk)(y:KP N Bk DA)(h:∀p a,N p a->M p a\/σ.fresh a):KP (λp a=>M p a\/σ.fresh a) σ DA:=x.trans (y.mono h)
def start:KP (λp a=>M p a\/σ.fresh a) σ σ:=refl
def AX(h:M .l a\/σ.A1 a=none):KP M σ (σ.uL a l):=by
 refine(λZ B=>B (λZ Z h=>h) (λZ Z Z=>rfl) (λb m q n=>?_) (λZ Z h Z=>h) (λZ Z h Z=>h) (λZ Z h Z=>h) (λb q=>?_))
 ·have:b≠a:=by
   intro A;obtain rfl:=A;obtain h| h:=h
   ·exact n h
   ·exact nO q h
  refine(?_:(if b=a then some l else σ.A1 b)=some m);rw[A5 this];exact q
 ·obtain ⟨q1,Q,j,c,W⟩:=q;have Q:(if b=a then some l else σ.A1 b)=none:=Q;split at Q
  ·cases Q
  ·exact⟨q1,Q,j,c,W⟩
def sset(h:M .s a\/σ.set a=none):KP M σ (σ.uS a l):=by
 refine(λZ B=>B (λZ Z h=>h) (λZ Z Z=>rfl) (λZ Z h Z=>h) (λb m q n=>?_) (λZ Z h Z=>h) (λZ Z h Z=>h) (λb q=>?_))
 ·have:b≠a:=by
   intro A;obtain rfl:=A;obtain h| h:=h
   ·exact n h
   ·exact nO q h
  refine(?_:(if b=a then some l else σ.set b)=some m);rw[A5 this];exact q
 ·obtain ⟨q1,v,Q,c,W⟩:=q;have Q:(if b=a then some l else σ.set b)=none:=Q;split at Q
  ·cases Q
  ·exact⟨q1,v,Q,c,W⟩
def Gq(h:M .i a\/σ.AL a=none):KP M σ (σ.uI a l):=by
 refine(λZ B=>B (λZ Z h=>h) (λZ Z Z=>rfl) (λZ Z h Z=>h) (λZ Z h Z=>h) (λb m q n=>?_) (λZ Z h Z=>h) (λb q=>?_))
 ·have:b≠a:=by
   intro A;obtain rfl:=A;obtain h| h:=h
   ·exact n h
   ·exact nO q h
  refine(?_:(if b=a then some l else σ.AL b)=some m);rw[A5 this];exact q
 ·obtain ⟨q1,v,j,Q,W⟩:=q;have Q:(if b=a then some l else σ.AL b)=none:=Q;split at Q
  ·cases Q
  ·exact⟨q1,v,j,Q,W⟩
def S4(h:M .t a\/σ.AZ a=none):KP M σ (σ.uT a l):=by
 refine(λZ B=>B (λZ Z h=>h) (λZ Z Z=>rfl) (λZ Z h Z=>h) (λZ Z h Z=>h) (λZ Z h Z=>h) (λb m q n=>?_) (λb q=>?_))
 ·have:b≠a:=by
   intro A;obtain rfl:=A;obtain h| h:=h
   ·exact n h
   ·exact nO q h
  refine(?_:(if b=a then some l else σ.AZ b)=some m);rw[A5 this];exact q
 ·obtain ⟨q1,v,j,c,Q⟩:=q;have Q:(if b=a then some l else σ.AZ b)=none:=Q;split at Q
  ·cases Q
  ·exact⟨q1,v,j,c,Q⟩
def BK(h:M .f a\/σ.cls a=none):KP M σ (σ.uF a f v):=by
 refine(λZ B=>B (λZ Z h=>h) (λb q n=>?_) (λZ Z h Z=>h) (λZ Z h Z=>h) (λZ Z h Z=>h) (λZ Z h Z=>h) (λb q=>q));have:b≠a:=by
  intro A;obtain rfl:=A;obtain h| h:=h
  ·exact n h
  ·exact q h
 funext g
 refine(?_:(if b=a/\g=f then some v else σ.A4 b g)=σ.A4 b g);rw[A5 λw=>this w.1]
def new(h:σ.cls a=none):KP M σ (σ.uN a c):=by
 have N:∀b,σ.cls b≠none->b≠a:=λb q e=>q (e▸h);refine(λZ B=>B (λb d q=>?_) (λb q n=>?_) (λZ Z h Z=>h) (λZ Z h Z=>h) (λZ Z h Z=>h) (λZ Z h Z=>h) (λb q=>?_))
 ·refine(?_:(if b=a then some c else σ.cls b)=some d);rw[A5 (N b (nn q))];exact q
 ·funext g
  refine(?_:(if b=a then none else σ.A4 b g)=σ.A4 b g);rw[A5 (N b q)]
 ·obtain ⟨q1,Q,j,f,W⟩:=q;have q1:(if b=a then some c else σ.cls b)=none:=q1;split at q1
  ·cases q1
  ·exact⟨q1,Q,j,f,W⟩
end KP
def D2.kp{M:Pl->Addr->Prop}(h:D2 S E):KP M S E:=(λZ B=>B (λa c q=>by rw[h.cls];exact q) (λa Z Z=>by rw[h.A4]) (λa l q Z=>h.A1 a l q) (λa l q Z=>by rw[h.set];exact q) (λa l q Z=>by rw[h.AL];exact q) (λa l q Z=>by rw[h.AZ];exact q) (λa q=>⟨by rw[<-h.cls];exact q.1,h.none q.2.1,by rw[<-h.set];exact q.2.2.1,by rw[<-h.AL];exact q.2.2.2.1,by rw[<-h.AZ];exact q.2.2.2.2⟩))
section
variable{M:Pl->Addr->Prop}{σ Aq:AH}
def Bs.kp{a:Addr}{R:Ap}(h:Bs σ a R)(k:KP M σ Aq)(n:¬M .f a):Bs Aq a R:=by
 haveI e:=k.A4 a (nn h.cls) n;exact(λZ B=>B (k.cls _ _ h.cls) (by rw[e];exact h.op) (by rw[e];exact h.out) (by rw[e];exact h.arg) (by rw[e];exact h.B1) (by rw[e];exact h.Ax) (by rw[e];exact h.fold) (by rw[e];exact h.last))
def BJ.kp{p C:Addr}{A:List Addr}{P:AM}(h:BJ σ p C A P)(k:KP M σ Aq)(n:¬M .f p)(N:¬M .l C)(T:∀a∈A,¬M .f a):BJ Aq p C A P:=by
 haveI e:=k.A4 p (nn h.cls) n;exact(λZ B=>B (k.cls _ _ h.cls) (by rw[e];exact h.AG) (k.A1 _ _ h.A1 N) h.len (λi a R H l=>(h.inst i a R H l).kp k (T a (Bj H))) (by rw[e];exact h.start) (by rw[e];exact h.loose) (by rw[e];exact h.rev) (by rw[e];exact h.DE) (by rw[e];exact h.CO))
def Cg.kp{r p C:Addr}{A:List Addr}{P:AM}{K:Int}{c:Addr}{I:List Int}(h:Cg σ r p C A P K c I)(k:KP M σ Aq)(n:∀a,¬M .f a)(N:¬M .l c)(E:¬M .l C):Cg Aq r p C A P K c I:=by
 haveI e:=k.A4 r (nn h.cls) (n r);exact(λZ B=>B (k.cls _ _ h.cls) (by rw[e];exact h.prog) (by rw[e];exact h.kind) (by rw[e];exact h.kept) (by rw[e];exact h.Y8) (k.A1 _ _ h.cl N) (h.pv.kp k (n p) E λa Z=>n a))
end
noncomputable def Dd {A:Type}(f:A->A):Nat->A->A
 | 0,c=>c
 | n+1,c=>Dd f n (f c)
def OE{A:Type}(f:A->A)(m n:Nat)(c:A):Dd f (m+n) c=Dd f n (Dd f m c):=by
 induction m generalizing c with
 | zero=>rw[Nat.zero_add];rfl
 | succ m C=>rw[Nat.add_right_comm];exact C (f c)
def YB{A:Type}{f:A->A}{c:A}(h:f c=c)(n:Nat):Dd f n c=c:=by
 induction n with
 | zero=>rfl
 | succ n C=>show Dd f n (f c)=c;rw[h,C]
open Classical in
def OF {A:Type}(f:A->A)(d:A->Prop)(c:A):A:=if h:∃x,(∃n,Dd f n c=x)/\d x then h.choose else c
def YC{A:Type}{f:A->A}{d:A->Prop}(hd:∀c,d c->f c=c){c x:A}{n:Nat}(h:Dd f n c=x)(W:d x):OF f d c=x:=by
 have H:∃x,(∃n,Dd f n c=x)/\d x:=⟨x,⟨n,h⟩,W⟩;unfold OF;refine(dif_pos H).symm▸?_;rcases H.choose_spec with⟨⟨m,e⟩,q⟩
 haveI a:Dd f (n+m) c=x:=by rw[OE,h,YB (hd _ W)]
 haveI g:Dd f (m+n) c=H.choose:=by rw[OE,e,YB (hd _ q)]
 rw[<-a,<-g,Nat.add_comm]
def YD(n:Nat)(l:List Int)(h:l.Nodup)(g:∀i∈l,0<i/\i<n):l.length<=n-1:=by
 induction n generalizing l with
 | zero=>
  cases l with
  | nil=>simp
  | cons a l=>haveI:=g a (Dt ..);exact A3 0x10908000005cc280001300200041 [_] [_] this
 | succ n C=>
  by_cases q:(n:Int)∈l
  ·haveI a:=C (l.erase n) (h.erase _) λi H=>by
    haveI w:=(h.mem_erase_iff).1 H;haveI:=g i w.2;haveI:=w.1;exact AK 0x730a00804c00800730a80800100980100046940100841 [_] [_] (by assumption) this
   haveI b:=List.length_erase_of_mem q;haveI c:=g _ q;haveI d:=List.length_pos_of_mem q;exact CA 0x10908101004200a121004220a921000220b985404010942161421000c3 [_,_,_] [] a b c
  ·haveI a:=C l h λi H=>by
    haveI:=g i H;haveI:i≠n:=λe=>q (e▸H);exact AK 0x730a00804c00800730a80800100980100046940100841 [_] [_] (by assumption) this
   exact A3 0x84840808021005090802100482 [_,_] [] a
noncomputable def BA (l:List Int):List Int:=l.filter λi=>decide (i≠-1)
def mY(P:AM)(C:List Int)(l:Prop):Prop:=
 ((BA C).Nodup)->(∀i∈C,i= -1\/(0<i/\i<P.AG.length))->(C.length<=2*(BA C).length)->(C=[]\/C.getLast?=some (-1)\/C.length+1<=2*(BA C).length)->l
def CC(P:AM)(C:List Int):Prop:=Ch (mY P C)
section
variable(zh:CC P items)
def CC.nd:=zh _ λz Z Z Z=>z
def CC.rg:=zh _ λZ z Z Z=>z
def CC.ln:=zh _ λZ Z z Z=>z
def CC.lm:=zh _ λZ Z Z z=>z
end
def S5:i∈BA l↔i∈l/\i≠-1:=List.mem_filter.trans (and_congr_right λZ=>decide_eq_true_iff)
def CC.cnt{C:List Int}(h:CC P C):(BA C).length<=P.AG.length-1:=YD _ _ h.nd λi H=>by
 haveI:=S5.1 H;exact(h.rg i this.1).resolve_left this.2
def Lw(h:i≠-1):BA (l++[i])=BA l++[i]:=(List.filter_append ..).trans (AO (BA l++ ·) (List.filter_cons_of_pos (Bg h)))
def CC.add{P:AM}{O:List Int}(h:CC P O){i:Int}(H:0<i/\i<P.AG.length)(n:i∉O):CC P (O++[i]):=by
 have C:i≠-1:=A3 0x469020009cc280201300200041 [_] [_] H;haveI:=h.ln;refine(λZ B=>B ?_ (λj p=>?_) ?_ (.inr (.inr ?_)))
 ·rw[Lw C,List.nodup_append];refine⟨h.nd,by simp,λa L b c=>?_⟩;haveI:b=i:=Az.1 c;subst this;intro A;rcases A with rfl
  exact n (S5.1 L).1
 ·obtain q| q:=Bq.1 p
  ·exact h.rg j q
  ·haveI:j=i:=Az.1 q;subst this;exact .inr H
 ·rw[Lw C,Kl,Kl];exact A3 0x1023202008501000281182100482 [_,_] [] this
 ·rw[Lw C,Kl,Kl];exact A3 0x8119010042808101000281182100482 [_,_] [] this
def JS(l:List Int):BA (markL l)=BA l:=by
 unfold markL;split
 ·rfl
 ·simp[BA]
def CC.nil:CC P []:=(λZ B=>B (List.nodup_nil) (List.forall_mem_nil _) (Nat.zero_le _) (.inl rfl))
set_option tactic.hygienic true in
def CC.mark{C:List Int}(h:CC P C):CC P (markL C):=by
 haveI L:=h.ln;haveI l:=h.lm;refine(λZ B=>B (by rw[JS];exact h.nd) (λj H=>?_) ?_ ?_)
 ·unfold markL at H;split at H
  ·exact h.rg j H
  ·rcases Bq.1 H with q| q
   ·exact h.rg j q
   ·left;exact Az.1 q
 ·rw[JS];unfold markL;split
  ·exact L
  ·rename_i q;rcases l with t| t| t
   ·exact Ad (.inl t) q
   ·exact Ad (.inr t) q
   ·simp;exact t
 ·rw[JS];unfold markL;split
  ·exact l
  ·right;left;simp
def Lx (P:AM)(K B:Int)(k:Int->List Int->List Int->List Int×List Int)(i:Int)(S C:List Int):List Int×List Int:=
  if i=0\/i∈C then(S,C) else
  if Dn (P.get i) B=true then k (P.get i).out (if OB P K i=true then S++[if(P.get i).last=true then 0 else i+1]++[-1] else S++[if(P.get i).last=true then 0 else i+1]) (C++[i])
  else k (if(P.get i).last=true then 0 else i+1) S (C++[i])
noncomputable def IJ (P:AM)(K B:Int):Nat->Int->List Int->List Int->List Int×List Int
 | 0,_,st,items=>(st,items)
 | n+1,i,st,items=>Lx P K B (IJ P K B n) i st items
def S6{P:AM}{K B:Int}{n:Nat}{i:Int}{S C:List Int}:IJ P K B (n+1) i S C=Lx P K B (IJ P K B n) i S C:=rfl
noncomputable def Gr (P:AM)(K B:Int)(c:List Int×List Int):List Int×List Int:=
 match c.1.getLast? with
 | none=>c
 | some i=>if i= -1 then(c.1.dropLast,markL c.2) else IJ P K B (P.AG.length-(BA c.2).length) i c.1.dropLast c.2
def Ec (P:AM)(K B h:Int)(C:List Int):List Int:=(OF (Gr P K B) (λc=>c.1=[]) ([h],C)).2
def mZ{P:AM}{K B h:Int}{C M:List Int}{n:Nat}(e:Dd (Gr P K B) n ([h],C)=([],M)):Ec P K B h C=M:=by
 unfold Ec;refine AO Prod.snd (YC (d:=λc=>c.1=[]) (λc H=>?_) e rfl);unfold Gr;haveI H:c.1=[]:=H;rw[H];rfl
def MQ (Q m:Addr):Pl->Addr->Prop
 | .l,a=>a=Q
 | .s,a=>a=m
 | _,_=>False
def CI.kp{M:Pl->Addr->Prop}{C r:List Int}(h:CI S q Q m C r)(k:KP M S E)(n:¬M .f q)(N:¬M .l Q)(F:¬M .s m):CI E q Q m C r:=by
 haveI e:=k.A4 q (nn h.cls) n;exact(λZ B=>B (k.cls _ _ h.cls) (by rw[e];exact h.FH) (by rw[e];exact h.IG) (k.A1 _ _ h.A1 N) (k.set _ _ h.set F))
def mh(r:Addr)(q:Addr)(h:Int)(B:Int)(Q:PE)(S:AH)(l:Prop):Prop:=
 ∀p Y a P K c I f m C,(Cg S r p Y a P K c I)->(P.Ok)->(CI S q f m C (BA C))->(CC P C)->(c≠f)->(Y≠f)->((h= -1\/(0<=h/\h<P.AG.length)))->(∀E,KP (MQ f m) S E->CI E q f m (Ec P K B h C) (BA (Ec P K B h C))->CC P (Ec P K B h C)->Q .none E)->l
def mi(r:Addr)(q:Addr)(h:Int)(B:Int)(Q:PE)(S:AH):Prop:=Ch (mh r q h B Q S)
def S8:List AV->PE->AH->Prop:=
 aO λr=>aO λq=>aI λh=>aI λB=>aN λQ S=>mi r q h B Q S
def YE:Tb:=(36,S8)::II
def S9{S:AH}{a b:Addr}{l:List AV}(h:(S.uL a l).fresh b):b≠a:=by
 intro A;rcases A with rfl
 have:=h.2.1;exact nO AY this
def CI.uL{q Q M:Addr}{C m:List Int}(h:CI S q Q M C m)(n:Q≠a):CI (S.uL a l) q Q M C m:=(λZ B=>B h.cls h.FH h.IG (by rw[BI n];exact h.A1) h.set)
set_option genInjectivity false in
set_option genSizeOf false in
structure Dp(Q:PE) where
 (σ:AH) (r q d p il cl ql ms:Addr) (as:List Addr) (P:AM) (kind h bits:Int) (cs items:List Int)
 V:Cg σ r p il as P kind cl cs
 K:P.Ok
 nc:cl≠ql
 ni:il≠ql
 hd:σ.fresh d
 dq:ql≠d
 hq:∀Aq,KP (MQ ql ms) σ Aq->CI Aq q ql ms (Ec P kind bits h items) (BA (Ec P kind bits h items))->CC P (Ec P kind bits h items)->Q .none Aq
namespace Dp
variable{Q:PE}(x:Dp Q)
noncomputable abbrev L (a b c:Option AV):AE:=[some (.obj x.r),some (.obj x.q),some (.int x.h),some (.int x.bits),some (.obj x.d),a,b,c]
def ok(i:Int):Prop:=0<=i/\i<x.P.AG.length
noncomputable def left (it:List Int):Nat:=x.P.AG.length-(BA it).length
def E2(S it:List Int)(t:AH)(l:Prop):Prop:=
 (KP (λp a=>MQ x.ql x.ms p a\/x.σ.fresh a) x.σ t)->(CI t x.q x.ql x.ms it (BA it))->(CC x.P it)->(t.A1 x.d=some (S.map .int))->(∀i∈S,i= -1\/x.ok i)->l
def St(S it:List Int)(t:AH):Prop:=Ch (x.E2 S it t)
section
variable{x}{st it:List Int}(zh:x.St st it A7)
def St.kp:=zh _ λz Z Z Z Z=>z
def St.U:=zh _ λZ z Z Z Z=>z
def St.O:=zh _ λZ Z z Z Z=>z
def St.DF:=zh _ λZ Z Z z Z=>z
def St.rg:=zh _ λZ Z Z Z z=>z
end
abbrev it (k:Nat):List Int×List Int:=Dd (Gr x.P x.kind x.bits) k ([x.h],x.items)
abbrev fi (n:Nat)(i:Int)(S it:List Int):List Int×List Int:=IJ x.P x.kind x.bits n i S it
def JF(n:Nat)(L:AE)(t:AH)(l:Prop):Prop:=
 ∀S it a b c k,(L=x.L a b c)->(x.it k=(S,it))->(x.St S it t)->(n=S.length+3*x.left it)->(n<=100)->l
def A0(n:Nat)(L:AE)(t:AH):Prop:=Ch (x.JF n L t)
def SA(n m:Nat)(L:AE)(t:AH)(l:Prop):Prop:=
 ∀i S it b c k,(L=x.L (some (.int i)) b c)->(x.it k=x.fi m i S it)->(x.St S it t)->(x.ok i)->(m=x.left it)->(S.length+3*x.left it<n)->(n<=100)->l
def J2(n m:Nat)(L:AE)(t:AH):Prop:=Ch (x.SA n m L t)
variable{x}{st it:List Int}{A7:AH}{i z:Int}{n m k:Nat}{a b c:Option AV}
def St.uL(s:x.St st it A7)(l:List AV)(h:A7.fresh e):x.St st it (A7.uL e l):=
 (λZ B=>B (s.kp.trans (KP.AX (.inl (.inr (s.kp.live _ h))))) (s.U.uL (BQ h s.U.A1)) s.O ((BI (BQ h s.DF)).trans s.DF) s.rg)
def St.set(s:x.St st it A7)(g:∀i∈st',i= -1\/x.ok i):x.St st' it (A7.uL x.d (st'.map .int)):=
 (λZ B=>B (s.kp.trans (KP.AX (.inl (.inr x.hd)))) (s.U.uL x.dq) s.O AY g)
def St.push(s:x.St st it A7)(g:y= -1\/x.ok y):x.St (st++[y]) it (A7.uL x.d (st.map .int++[.int y])):=by
 have:=s.set (st':=st++[y]) λi h=>(Bq.1 h).elim (s.rg i) λw=>by obtain rfl:=Az.1 w;exact g
 rwa [CX] at this
def St.Bd(s:x.St st it A7):Cg A7 x.r x.p x.il x.as x.P x.kind x.cl x.cs:=x.V.kp s.kp.drop (λZ w=>w) x.nc x.ni
def SD(s:x.St st it A7):(BA it).length+1<=x.P.AG.length/\it.length<=2*(BA it).length:=by
 have:=s.O.cnt;have:=x.K.pos;have:=s.O.ln;exact⟨by exact AK 0x2021404000a121004200a42100082 [_,_] [] (by assumption) (by assumption),by exact A3 0x408c1080281182100482 [_,_] [] this⟩
def out(h:x.it k=x.fi (m+1) i st it)(g:i=0\/i∈it)(s:x.St st it A7)(H:st.length+3*x.left it<n)(N:n<=100):∃m,m<n/\x.A0 m (x.L a b c) A7:=
 ⟨_,H,λZ B=>B st it _ _ _ k rfl (by rw[h,fi,S6,Lx,A6 g]) s rfl (AK 0x206410d03304200a44140cc10802819043104c3 [_,_,_] [] H N)⟩
def nx(h:x.it k=x.fi m i st (it++[z]))(s:x.St st (it++[z]) A7)(H:x.ok i)(R:m=x.left (it++[z]))(S:st.length+3*x.left (it++[z])<n)(N:n<=100):∃M,M<m+1/\x.J2 n M (x.L (some (.int i)) b c) A7:=
 ⟨m,GQ m,λZ B=>B i st _ _ _ k rfl h s H R S N⟩
end Dp
section
variable{I:Ag}(S:AU I II)
include S
set_option tactic.hygienic true in
def mj{Qa:PE}{x:Dp Qa}{D it:List Int}{t:AH}{i:Int}{n m k:Nat}{b c:Option AV}{K e:Fl->AE->AH->Prop}(h:x.it k=x.fi (m+1) i D it)(s:x.St D it t)(F:x.ok i)(R:m+1=x.left it)(T:D.length+3*x.left it<n)(N:n<=100)
  (v:∀L t,(∃U,U<m+1/\x.J2 n U L t)->K .next L t/\K .cont L t) (Y:∀L t,(∃U,U<n/\x.A0 U L t)->e .next L t):
  B3 I (.and (.cmp .ne (.J 5) (.k (.int 0))) (.Ar (.J 1) 7 (.cons (.J 5) .nil))) (λva σ=>pO va.bool? λta=>(ta=true->AP I (Bc (Bc LR 1) 2) K (x.L (some (.int i)) b c) σ)/\(ta=false->e .next (x.L (some (.int i)) b c) σ)) (x.L (some (.int i)) b c) t:=by
 have C:AU I IH:=S.dr 10;haveI S7:AU I Lp:=S.dr 7;have mm:I.Ar=Am:=C.m;haveI f:=Dp.SD s;haveI O:=x.K.len;have W:=F.1;haveI P:=F.2;have y:i∈BA it↔i∈it:=by rw[S5];exact⟨λw=>w.1,λw=>⟨w,by exact A3 0x8d2040012c0200040 [] [_] W⟩⟩
 refine DL (λG=>?_) (λG=>BW (Y _ _ (Dp.out h (.inl G) s T N)));exists s.U.cls,BU mm (by decide+kernel:Am 301 7=some 27);refine sp_i (C.g 27 rfl) (λZ B=>B x.ql x.ms it (BA it) s.U (AK 0x11c208600b902300220a021404000a280084c3 [_,_,_] [] f O) (AK 0x213880c600b902304200a041404010a280104c3 [_,_,_] [] f O) (λX=>BW (Y _ _ (Dp.out h (.inr (y.1 X)) s T N))) (λX=>CT ?_));have r:i∉it:=λw=>X (y.2 w);haveI a:i≠-1:=A3 0x8d2040012c0200040 [] [_] W;haveI H:=h;rw[Dp.fi,S6,Lx,A5 λw=>w.elim G r] at H;have o:x.St D (it++[i]) ((t.uS x.ms (BA it++[i])).uL x.ql ((it++[i]).map .int)):=(λZ B=>B ((s.kp.trans (KP.sset (.inl (.inl rfl)))).trans (KP.AX (.inl (.inl rfl)))) (λZ B=>B s.U.cls s.U.FH s.U.IG AY (by rw[Lw a];simp[AH.uL,AH.uS])) (s.O.add (CA 0x3985004026004002c0200185004022340000841 [_] [_] W P G) r) ((BI (C1 x.dq)).trans s.DF) s.rg);have M:x.left (it++[i])+1=x.left it:=by unfold Dp.left;rw[Lw a,Kl];exact A3 0x2921080280812808021005c811821105000a020084c3 [_,_,_] [] f
 haveI DF:=s.rg;haveI V:=o.Bd;refine BX (V.pv.at F.1 F.2) λea q1 Q q3=>?_;haveI w1:word i:=BC (A3 0x2c0227735940061ac0200040 [] [_] W) (AK 0x5f7359400618048a00016140100841 [_] [_] O P);haveI w2:∀l:List Int,l.length<=D.length+1->l.length<=1000000:=λl O=>by exact CA 0x47a12010600a46140cc20842819043185080802100504 [_,_,_,_] [] T N O
 haveI d:x.ok (if(x.P.get i).last=true then 0 else i+1):=by
  haveI:=x.K.pos;split
  ·exact⟨by exact Ae 0x2c0000000 [] [],by exact A3 0xc280200240100041 [_] [] this⟩
  ·rename_i g;exact⟨by exact A3 0x2d010004002c0200040 [] [_] W,x.K.last i F.1 F.2 (Bool.of_not_eq_true g)⟩
 haveI ko:=x.K.out i F.1 F.2;have p:x.ok (x.P.get i).out:=ko;exists V.prog,V.pv.AG;refine(DX w1 V.pv.A1 (Gk q3) (Gl q1) ?_:);exists Q.last;have rest:∀E:Int,(if(x.P.get i).last=true then 0 else i+1)=E->AP I ((Bc (Bc LR 1) 2).drop 2) K (x.L (some (.int i)) (some (.obj ea)) (some (.int E))) ((t.uS x.ms (BA it++[i])).uL x.ql ((it++[i]).map .int)):=λE eb=>by
  rw[eb] at H d;refine sp_i (C.g 31 rfl) ⟨_,Q,?_⟩;cases A0:Dn (x.P.get i) x.bits with
  | false=>
   rw[A5 (by rw[A0];decide)] at H;exact CT (v _ _ (Dp.nx H o d (AK 0x2821005420a020005420a020084c3 [_,_,_] [] R M) (AK 0x1220a066084014882819861005430a02008504 [_,_,_,_] [] T M) N)).2
  | true=>
   rw[A6 A0] at H;have j:=o.push (.inr d);refine BW ?_;exists o.DF,o.DF,rm (w2 D (Ae 0x1080800100441 [_] [])),.inl rfl,j.Bd.cls,BU mm (by decide+kernel:Am 479 9=some 35);refine sp_i (S7.g 35 rfl) (λZ B=>B _ _ _ _ _ _ _ j.Bd ?_);cases A:OB x.P x.kind i with
   | false=>
    rw[A5 (by rw[A];decide)] at H;refine BW ?_;exists Q.out;exact(v _ _ (Dp.nx H j p (AK 0x2821005420a020005420a020084c3 [_,_,_] [] R M) (by simp;exact AK 0x91050330428080014882819861005430a02008504 [_,_,_,_] [] T M) N)).1
   | true=>
    rw[A6 A] at H;haveI s4:=j.push (.inl rfl);rw[show (D++[E]).map AV.int=D.map .int++[.int E] from CX] at s4;refine CT ?_;exists AY,AY,by unfold room;simp;exact AK 0x47a11f90600a44140cc10802819043104c3 [_,_,_] [] T N,.inl rfl,Q.out
    exact(v _ _ (Dp.nx H s4 p (AK 0x2821005420a020005420a020084c3 [_,_,_] [] R M) (by simp;exact AK 0x91050330428100014882819861005430a02008504 [_,_,_,_] [] T M) N)).1
 refine Cf (λg=>rest 0 (A6 g)) (λg=>?_);exists trivial;exact rest (i+1) (A5 g)
def mq{Q:PE}(x:Dp Q){y xb xc:Option AV}{t:AH}(X:x.St [x.h] x.items t):AP I (LR.drop 1) (BB Q) (x.L y xb xc) t:=by
 have C:AU I IH:=S.dr 10;haveI W:I.Ar=Am:=C.m;haveI M:=x.K.len;refine⟨x.A0,⟨_,λZ B=>B [x.h] x.items _ _ _ 0 rfl rfl X rfl (by unfold Dp.left;simp;exact A3 0x1032086819921080210228000482 [_,_] [] M)⟩,?_⟩;intro n L t r;refine r _ λD it a b c k y1 R s H N=>?_;rcases y1 with rfl
 refine A8 (AN rfl) λe v=>?_;have E:=s.uL [] v;have f:=Dp.SD s;exists E.DF,AY,IB _;refine FE (λg=>?_) (λg=>?_)
 ·obtain ⟨z,p⟩:∃z,D.getLast?=some z:=by cases D with| nil=>exact Ad rfl g| cons a h=>exact⟨_,List.getLast?_cons⟩
  haveI o:=E.set (st':=D.dropLast) λi F=>s.rg i (List.dropLast_subset _ F);haveI o:=(List.map_dropLast)▸o;haveI K:=s.rg z (List.mem_of_getLast? p);have l:D.dropLast.length+1=D.length:=by rw[List.length_dropLast];haveI:D.length≠0:=λw=>g (by rw[List.length_eq_zero_iff.1 w];rfl);exact A3 0x280140409080012280000441 [_] [] this
  exists E.DF,rm (AK 0x47a12010600a903308200842819043084c3 [_,_,_] [] H N),(by rw[List.getLast?_map,p];rfl:(D.map AV.int).getLast?=some (.int z));have d:x.it (k+1)=Gr x.P x.kind x.bits (D,it):=by refine(?_:Dd _ _ _=_);rw[OE];refine(?_:Dd _ 1 (x.it k)=_);rw[R];rfl
  have A0:Gr x.P x.kind x.bits (D,it)=if z= -1 then(D.dropLast,markL it) else IJ x.P x.kind x.bits (x.left it) z D.dropLast it:=by unfold Gr;simp only[p];rfl
  rw[A0] at d;refine Ai (λG=>?_) (λG=>?_)
  ·rw[A6 G] at d;exists o.U.cls,BU W (by decide+kernel:Am 301 8=some 28);refine sp_i (C.g 28 rfl) (λZ B=>B x.ql x.ms it (BA it) o.U (AK 0x213880c600a280085c811841005010a020104c3 [_,_,_] [] M f) (λe' A=>?_));haveI j:=o.uL [] A;haveI Y:x.St D.dropLast (markL it) _:=(λZ B=>B (j.kp.trans (KP.AX (.inl (.inl rfl)))) (λZ B=>B j.U.cls j.U.FH j.U.IG AY (by rw[JS];exact j.U.set)) s.O.mark ((BI (C1 x.dq)).trans j.DF) j.rg);exact A8 (.inl rfl) ⟨D.dropLast.length+3*x.left it,by exact AK 0x1220a066084015206608461105430a02000504 [_,_,_,_] [] H l,λZ B=>B _ _ _ _ _ (k+1) rfl d Y (by unfold Dp.left;rw[JS]) (CA 0x206410d03304200a903304230882819043105430a02000504 [_,_,_,_] [] H N l)⟩
  ·rw[A5 G] at d;refine⟨x.J2 n,⟨_,λZ B=>B z _ it _ _ (k+1) rfl d o (K.resolve_left G) rfl (AK 0x1220a066084015206608461105430a02000504 [_,_,_,_] [] H l) N⟩,?_⟩;intro m L t r;refine r _ λi D it b c k y2 R s F T H N=>?_;rcases y2 with rfl
   haveI f:=Dp.SD s;have P:0<m:=by unfold Dp.left at T;refine(?_:0<m);haveI:(BA it).length+1<=x.P.AG.length:=f.1;exact AK 0x24010014910421005c811841185010a02010504 [_,_,_,_] [] T f
   obtain ⟨m,rfl⟩:∃V,m=V+1:=⟨m-1,by exact A3 0x14808121000200a40100041 [_] [] P⟩;exact mj S R s F T H N (λL t w=>⟨w,w⟩) λL t w=>w
 ·have g:D=[]:=(JL D).1 g;subst g;haveI e:=mZ R;have U:=E.U;have O:=E.O;rw[<-e] at U O;exact x.hq _ E.kp.drop U O
def mr:Vc I 4 4 LR S8:=λe Q E h=>by
 apply Xr h;clear h;intro r q h B H;refine⟨rfl,?_⟩;refine H _ λp C a P A c o f m T V K U O n N t R=>?_;refine A8 (AN rfl) λd hd=>?_;haveI F:AU I IH:=S.dr 10;haveI M:I.Ar=Am:=F.m;exact mq S ⟨E,r,q,d,p,C,c,f,m,a,P,A,h,B,o,T,V,K,n,N,hd,BQ hd U.A1,R⟩ (λZ D=>D (KP.AX (.inl (.inr hd))) (U.uL (BQ hd U.A1)) O AY (λi G=>by obtain rfl:=Az.1 G;exact t))
end
abbrev M0:Pl->Addr->Prop:=λZ Z=>False
def SE{Q:PE}{S:AH}(h:∀E q f m,KP M0 S E->CI E q f m [] []->S.fresh q->S.fresh f->S.fresh m->Q (.obj q) E):CN KG 301 [] Q S:=by
 intro q H;refine⟨by exact A6 rfl,λf d m Y=>⟨rfl,?_⟩⟩;haveI l:=(KP.new (M:=M0) (c:=301) H.1).live _ d;haveI k1:KP (λp a=>M0 p a\/S.fresh a) S (((S.uN q 301).uL f []).uF q 23 (.obj f)):=((KP.new H.1).trans (KP.AX (.inl (.inr l)))).trans (KP.BK (.inl (.inr H)));haveI L:=k1.live _ Y;refine h _ q f m (KP.drop (M:=M0) ((k1.trans (KP.sset (.inl (.inr L)))).trans (KP.BK (.inl (.inr H))))) ?_ H l L;exact(λZ B=>B (A6 rfl) (by simp[AH.uF,AH.uS,AH.uL,AH.uN]) (by simp[AH.uF,AH.uS,AH.uL,AH.uN]) (A6 rfl) (A6 rfl))
def mu(S:AH)(s:Addr)(n:Int)(h:List Int)(f:Int)(C:List Int)(w:Addr)(l:Prop):Prop:=
 (S.cls s=some 266)->(S.A4 s 19=some (.int n))->(S.A4 s 15=some (.AA (h.map .int)))->(S.A4 s 20=some (.int f))->(S.A4 s 21=some (.AA (C.map .int)))->(S.A4 s 22=some (.obj w))->l
def E6(S:AH)(s:Addr)(n:Int)(h:List Int)(f:Int)(C:List Int)(w:Addr):Prop:=Ch (mu S s n h f C w)
section
variable(zh:E6 σ s n zR zS zT zU)
def E6.cls:=zh _ λz Z Z Z Z Z=>z
def E6.num:=zh _ λZ z Z Z Z Z=>z
def E6.GL:=zh _ λZ Z z Z Z Z=>z
def E6.flag:=zh _ λZ Z Z z Z Z=>z
def E6.ids:=zh _ λZ Z Z Z z Z=>z
def E6.wd:=zh _ λZ Z Z Z Z z=>z
end
def E6.kp{M:Pl->Addr->Prop}{S E:AH}{s:Addr}{n:Int}{H:List Int}{f:Int}{C:List Int}{w:Addr}(h:E6 S s n H f C w)(k:KP M S E)(m:¬M .f s):E6 E s n H f C w:=by
 haveI e:=k.A4 s (nn h.cls) m;exact(λZ B=>B (k.cls _ _ h.cls) (by rw[e];exact h.num) (by rw[e];exact h.GL) (by rw[e];exact h.flag) (by rw[e];exact h.ids) (by rw[e];exact h.wd))
def JT (P:AM)(K B:Int)(it:List Int)(h:Int):List Int:=if h= -1 then markL it else Ec P K B h it
def IK (P:AM)(K B:Int)(h:List Int):List Int:=h.foldl (JT P K B) []
def D3(P:AM)(H:List Int):Prop:=∀h∈H,h= -1\/(0<=h/\h<P.AG.length)
def mv(r:Addr)(s:Addr)(o:Int)(Q:PE)(S:AH)(l:Prop):Prop:=
 ∀p Y a P K c I n h f C w,(Cg S r p Y a P K c I)->(P.Ok)->(E6 S s n h f C w)->(D3 P h)->(∀E q g m,KP M0 S E->S.fresh q->S.fresh g->S.fresh m->CI E q g m (IK P K (G8 f o) h) (BA (IK P K (G8 f o) h))->CC P (IK P K (G8 f o) h)->Q (.obj q) E)->l
def my(r:Addr)(s:Addr)(o:Int)(Q:PE)(S:AH):Prop:=Ch (mv r s o Q S)
def SF:List AV->PE->AH->Prop:=
 aO λr=>aO λs=>aI λo=>aN λQ S=>my r s o Q S
def Ly:Tb:=(26,CN KG 301)::YE
def n5(r s q Q M:Addr)(o:Int)(P:AM)(K b:Int)(h:List Int)(S:AH)(i:Nat)(L:AE)(t:AH)(l:Prop):Prop:=
 ∀it m,KP (λp a=>M0 p a\/S.fresh a) S t->CI t q Q M it (BA it)->CC P it->(h.drop i).foldl (JT P K b) it=IK P K b h->L=[some (.obj r),some (.obj s),some (.int o),some (.obj q),some (.int b),m]->l
def n6(r s q Q m:Addr)(o:Int)(P:AM)(K b:Int)(h:List Int)(S:AH)(i:Nat)(L:AE)(t:AH):Prop:=Ch (n5 r s q Q m o P K b h S i L t)
section
variable{I:Ag}(S:AU I Ly)
include S
def n7:Vc I 3 3 Wq SF:=λargs Qa W h=>by
 apply Lh h;clear h;intro r s o e;refine⟨rfl,?_⟩;refine e _ λp C D P A E t nc GL n ids wd V K St hr hq=>?_;have F:AU I IH:=S.dr 12;have M:I.Ar=Am:=F.m;refine sp_i (S.g 26 rfl) (SE λG9 q Q m k1 d f1 f y=>?_);haveI R:=St.kp k1 (λw=>w);exists R.cls,BU M (by decide+kernel:Am 266 6=some 24);refine sp_i (F.g 24 rfl) ⟨n,R.cls,R.flag,A8 (AN rfl) ?_⟩;exists R.GL;refine DY (n6 r s q Q m o P A (G8 n o) GL W) (λZ B=>B [] none (k1.mono λp a w=>.inl w) d CC.nil rfl rfl) (λZ Z Z Z=>trivial) ?_ ?_
 ·intro i va L X KK hi c G A0 kc kb kr;refine c _ λit ma T U O H y2=>?_;rcases y2 with rfl
  rw[Bb] at G;refine AJ (BY.1 G) λh e Br=>?_;subst Br;haveI Lz:=hr h (Bj e);rw[F9 e,Im] at H;haveI ol:=O.ln;haveI oc:=O.cnt;haveI hl:=K.len;refine⟨_,rfl,?_⟩;refine Ai (λg=>?_) λg=>?_
  ·rw[JT,A6 g] at H;exists U.cls,BU M (by decide+kernel:Am 301 8=some 28);refine sp_i (F.g 28 rfl) (λZ B=>B Q m it (BA it) U (CA 0x109c406300502304200a121008210a280104c3 [_,_,_] [] ol oc hl) (λea hf=>A8 (.inl rfl) (A0 _ _ (λZ B=>B (markL it) _ ((T.trans (KP.AX (.inl (.inr (T.live _ hf))))).trans (KP.AX (.inl (.inr f)))) ?_ O.mark H rfl))));rw[JS];exact(λZ B=>B U.cls U.FH U.IG AY U.set)
  ·rw[JT,A5 g] at H;haveI v:Cg X r p C D P A E t:=V.kp T.drop (λa w=>w) (λw=>w) (λw=>w);exists v.cls,BU M (by decide+kernel:Am 479 10=some 36);have N:∀x l,W.A1 x=some l->x≠Q:=λx l h w=>by have:=f.2.1;rw[<-w,h] at this;cases this
   refine sp_i (S.g 36 rfl) (λZ B=>B p C D P A E t Q m it v K U O (N _ _ V.cl) (N _ _ V.pv.A1) Lz (λAq k2 j Y=>A8 (.inl rfl) (A0 _ _ (λZ B=>B _ _ ?_ j Y H rfl))));refine T.tr k2 λp a w=>.inr ?_;cases p<;>first| (have w:a=Q:=w;subst w;exact f)| (have w:a=m:=w;subst w;exact y)| exact w.elim
 ·intro L X c;refine c _ λit ma T U O H y1=>?_;rcases y1 with rfl
  rw[Ak,Fx] at H;haveI H:it=_:=H;rw[H] at U O;exact hq _ q Q m T.drop f1 f y U O
end
def OG (P:AM)(K:Int)(f:Ap->Bool)(j:Bool)(B:Int)(k:List Int->List Int->List Int×List Int)(i:Int)(r C:List Int):List Int×List Int:=
  if i= -1 then(if C≠[] then(r,C) else k (markL r) C)
  else if(P.get i).op=1 then(if j=false/\f (P.get i)=true then k (Ec P K B (P.get i).out r) C else k r C)
  else if(P.get i).op=4/\(j=true\/P.CO=false) then
   (if K=0 then(r,if(P.get i).arg∈C then C else C++[(P.get i).arg]) else k r (if(P.get i).arg∈C then C else C++[(P.get i).arg]))
  else k r C
noncomputable def HZ (P:AM)(K:Int)(f:Ap->Bool)(C:Bool)(B:Int):List Int->List Int->List Int->List Int×List Int
 | [],re,ids=>(re,ids)
 | i::is,re,ids=>OG P K f C B (HZ P K f C B is) i re ids
def YF{P:AM}{K:Int}{f:Ap->Bool}{C:Bool}{B i:Int}{v r g:List Int}:HZ P K f C B (i::v) r g=OG P K f C B (HZ P K f C B v) i r g:=rfl
def OH{S:AH}{Q x:Addr}{l:List AV}(f:S.fresh Q)(h:S.A1 x=some l):x≠Q:=λw=>by have:=f.2.1;rw[<-w,h] at this;cases this
def YG{S:AH}{Q m:Addr}(f:S.fresh Q)(F:S.fresh m):∀p a,MQ Q m p a->M0 p a\/S.fresh a:=λp a w=>.inr (by
 cases p<;>first| (haveI w:a=Q:=w;subst w;exact f)| (haveI w:a=m:=w;subst w;exact F)| exact w.elim)
def n8(r:Addr)(q:Addr)(o:Int)(Q:PE)(S:AH)(t:Prop):Prop:=
 ∀p Y a P K c I f M C,(Cg S r p Y a P K c I)->(P.Ok)->(CI S q f M C (BA C))->(CC P C)->(∀E x l m d,KP M0 S E->S.fresh x->S.fresh l->S.fresh m->S.fresh d->∀n g,(n,g)=HZ P K (λR=>G7 R o) (decide (o=256)) (Ab (Bx o) 63) C [] []->
    CI E x l m n (BA n)->CC P n->E.A1 d=some (g.map .int)->g.length<60->Q (.AA [.obj x,.obj d]) E)->t
def n9(r:Addr)(q:Addr)(o:Int)(Q:PE)(S:AH):Prop:=Ch (n8 r q o Q S)
def SG:List AV->PE->AH->Prop:=
 aO λr=>aO λq=>aI λo=>aN λQ S=>n9 r q o Q S
def OI:Tb:=(37,SF)::(38,SG)::Ly
set_option genInjectivity false in
set_option genSizeOf false in
structure KH(Q:PE) where
 (σ:AH) (r q p il cl nA JG q' ql ms dl:Addr) (as:List Addr) (P:AM) (kind o bits:Int) (cs items:List Int)
 V:Cg σ r p il as P kind cl cs
 K:P.Ok
 U0:CI σ q nA JG items (BA items)
 O0:CC P items
 f1:σ.fresh q'
 f2:σ.fresh ql
 f3:σ.fresh ms
 fd:σ.fresh dl
 qd:ql≠dl
 hq:∀Aq,KP M0 σ Aq->∀re ids,(re,ids)=HZ P kind (λR=>G7 R o) (decide (o=256)) bits items [] []->CI Aq q' ql ms re (BA re)->CC P re->Aq.A1 dl=some (ids.map .int)->ids.length<60->Q (.AA [.obj q',.obj dl]) Aq
namespace KH
variable{Q:PE}(x:KH Q)
noncomputable abbrev L (a b:Option AV):AE:=[some (.obj x.r),some (.obj x.q),some (.int x.o),some (.obj x.q'),some (.obj x.dl),some (.int x.bits),a,b]
def E2(r C:List Int)(t:AH)(i:Nat)(l:Prop):Prop:=
 (KP (λp a=>M0 p a\/x.σ.fresh a) x.σ t)->(CI t x.q' x.ql x.ms r (BA r))->(CC x.P r)->(t.A1 x.dl=some (C.map .int))->(C.length<=i)->l
def St(r C:List Int)(t:AH)(i:Nat):Prop:=Ch (x.E2 r C t i)
section
variable{x}(zh:x.St re ids A7 i)
def St.kp:=zh _ λz Z Z Z Z=>z
def St.U:=zh _ λZ z Z Z Z=>z
def St.O:=zh _ λZ Z z Z Z=>z
def St.hd:=zh _ λZ Z Z z Z=>z
def St.hl:=zh _ λZ Z Z Z z=>z
end
noncomputable abbrev rd (l r C:List Int):List Int×List Int:=HZ x.P x.kind (λR=>G7 R x.o) (decide (x.o=256)) x.bits l r C
def JF(i:Nat)(L:AE)(t:AH)(l:Prop):Prop:=
 ∀a b r C,(L=x.L a b)->(x.St r C t i)->(x.rd x.items [] []=x.rd (x.items.drop i) r C)->l
def A0(i:Nat)(L:AE)(t:AH):Prop:=Ch (x.JF i L t)
variable{x}{re ids:List Int}{A7:AH}{i:Nat}{a b:Option AV}
def St.uL(s:x.St re ids A7 i)(l:List AV)(h:A7.fresh e):x.St re ids (A7.uL e l) i:=
 (λZ B=>B (s.kp.trans (KP.AX (.inl (.inr (s.kp.live _ h))))) (s.U.uL (BQ h s.U.A1)) s.O ((BI (BQ h s.hd)).trans s.hd) s.hl)
def St.Bd(s:x.St re ids A7 i):Cg A7 x.r x.p x.il x.as x.P x.kind x.cl x.cs:=x.V.kp s.kp.drop (λZ w=>w) (λw=>w) (λw=>w)
def St.up(s:x.St re ids A7 i):x.St re ids A7 (i+1):=(λZ B=>B s.kp s.U s.O s.hd (Nat.le_succ_of_le s.hl))
def St.done(s:x.St re ids A7 i)(H:i<=x.items.length)(h:x.rd x.items [] []=(re,ids)){I:Ag}:AP I (LS.drop 2) (BB Q) (x.L a b) A7:=by
 have l:=x.O0.ln;have c:=x.O0.cnt;have k:=x.K.len;have:=s.hl;exact A8 (AN rfl) (x.hq _ s.kp.drop re ids h.symm s.U s.O s.hd (Kk 0x243c10c01408210a046184414242020461450040a02100545 [_,_,_,_,_] [] H l c k this))
end KH
section
variable{I:Ag}(S:AU I Ly)
include S
def nB{Q:PE}{x:KH Q}{r C:List Int}{t:AH}{i:Nat}{a b:Option AV}{h:Int}{K:Fl->AE->AH->Prop}(s:x.St r C t i)(f:x.items[i]?=some h)(H:x.rd x.items [] []=x.rd (x.items.drop i) r C)
  (E:∀L t,x.A0 (i+1) L t->K .next L t/\K .cont L t) (kb:∀a b r C t,x.St r C t (i+1)->x.rd x.items [] []=(r,C)->K .brk (x.L a b) t):AP I (Bc LS 1) K (x.L (some (.int h)) b) t:=by
 have O:AU I IH:=S.dr 12;have N:AU I JN:=O.dr 15;haveI m:I.Ar=Am:=N.m;haveI M:=x.K.len;haveI ol:=s.O.ln;haveI oc:=s.O.cnt;haveI hi:i<x.items.length:=(D6.1 f).1;haveI Y:=s.hl;haveI l0:=x.O0.ln;haveI j:=x.O0.cnt;have Lz:=x.O0.rg h (Bj f);replace H:x.rd x.items [] []=_:=H.trans (by rw[F9 f,KH.rd,YF,OG]);refine Ai (λg=>?_) (λg=>?_)
 ·rw[A6 g] at H;refine A8 (AN rfl) λe p=>?_;have D:=s.uL [] p;exists D.hd,AY,IB _;refine FE (λG=>?_) (λG=>?_)
  ·rw[A6 λw=>G (by rw[w];rfl)] at H;exact kb _ _ _ _ _ D.up H
  ·have LM:C=[]:=(JL C).1 G;rw[A5 λw=>w LM] at H;exists D.U.cls,BU m (by decide+kernel:Am 301 8=some 28);refine sp_i (O.g 28 rfl) (λZ B=>B _ _ r _ D.U (CA 0x109c40630051400428118410050908021104c3 [_,_,_] [] M ol oc) (λe2 d=>A8 (.inl rfl) ?_));have o:=D.uL [] d;exact(E _ _ (λZ B=>B _ _ (markL r) C rfl (λZ B=>B (o.kp.trans (KP.AX (.inl (.inr x.f2)))) (by rw[JS];exact(λZ B=>B o.U.cls o.U.FH o.U.IG AY o.U.set)) s.O.mark ((BI (C1 x.qd)).trans o.hd) o.up.hl) H)).2
 ·rw[A5 g] at H;have c:=Lz.resolve_left g;haveI V:=s.Bd;refine BX (V.pv.at (i:=h) (A3 0x2c02001cc280201300200041 [_] [_] c) c.2) λa q1 A q3=>?_;have X:x.rd x.items [] []=x.rd (x.items.drop (i+1)) r C->K .next (x.L (some (.int h)) (some (.obj a))) t:=λw=>(E _ _ (λZ B=>B _ _ r C rfl s.up w)).1
  haveI w1:word h:=BC (A3 0x160113b9aca0030dcc280201300200041 [_] [_] c) (AK 0x17dcd6500186012280005cc280201300200041 [_] [_] M c);exists V.prog,V.pv.AG;refine(DX w1 V.pv.A1 (Gk q3) (Gl q1) ?_:);exists A.op;refine Ai (λF=>?_) (λF=>?_)
  ·rw[A6 F] at H;refine DL (λG=>?_) (λG=>BW (X (by rw[H,A5 λw=>by simp[G] at w])));refine sp_i (N.g 17 rfl) ⟨_,A,Cf (λl=>?_) (λl=>X (by rw[H,A5 λw=>l w.2]))⟩;rw[A6 ⟨C0 G,l⟩] at H;exists V.cls,BU m (by decide+kernel:Am 479 10=some 36),A.out;have ho:=x.K.out h (A3 0x2c02001cc280201300200041 [_] [_] c) c.2;exact sp_i (S.g 36 rfl) (λZ B=>B _ _ _ _ _ _ _ _ _ r V x.K s.U s.O (OH x.f2 x.V.cl) (OH x.f2 x.V.pv.A1) (.inr ho) (λAq k2 n y=>A8 (.inl rfl) (E _ _ (λZ B=>B _ _ _ C rfl (λZ B=>B (s.kp.tr k2 (YG x.f2 x.f3)) n y (k2.A1 _ _ s.hd (C1 x.qd)) s.up.hl) H)).1))
  ·rw[A5 F] at H;exists A.op;refine Ai (λG=>?_) (λG=>BW (X (by rw[H,A5 λw=>G w.1])));have P:(x.o=256\/x.P.CO=false)->AP I (O4 ((RG (((Bc LS 1).drop 2).headD .brk)).headD .brk)) (Cs (AP I [] (Cs (AP I [] K) K)) (Cs (AP I [] K) K)) (x.L (some (.int h)) (some (.obj a))) t:=λw=>by
    rw[A6 ⟨G,w.imp Bg id⟩] at H;have U:∀T W,x.St r W T (i+1)->(if(x.P.get h).arg∈C then C else C++[(x.P.get h).arg])=W->AP I [.ite (.cmp .eq (.attr (.J 0) 26) (.k (.int 0))) [.brk] []] (Cs (AP I [] (Cs (AP I [] K) K)) (Cs (AP I [] K) K)) (x.L (some (.int h)) (some (.obj a))) T:=λT W s' e=>by
     rw[e] at H;exists s'.Bd.kind;refine Ai (λR=>?_) (λR=>?_)
     ·rw[A6 R] at H;exact kb _ _ _ _ _ s' H
     ·rw[A5 R] at H;exact(E _ _ (λZ B=>B _ _ r W rfl s' H)).1
    exists A.arg,s.hd;refine A8 (λz c=>by refine AJ (DT.1 c) λya Z Br=>?_;subst Br;trivial) (FE (λA0=>?_) (λA0=>?_))
    ·exists s.hd,A.arg,s.hd,rm (Kk 0x8f424020c01450010a461105020802811881185090802120545 [_,_,_,_,_] [] M hi Y l0 j),.inl rfl;exact U _ _ (λZ B=>B (s.kp.trans (KP.AX (.inl (.inr x.fd)))) (s.U.uL x.qd) s.O (by rw[AY];simp) (by simp;exact A3 0x404200a02100482 [_,_] [] Y)) (A5 λw=>A0 (HC w))
    ·exact U _ _ s.up (A6 (by refine AJ (DT.1 A0) λya w e=>?_;cases e;exact w))
   refine Ai (λl=>CT (P (.inl l))) (λl=>?_);exists V.prog,V.pv.CO;cases e:x.P.CO with
   | false=>exact CT (P (.inr e))
   | true=>exact BW (X (by rw[H,A5 λw=>w.2.elim (λv=>l (Cb v)) λv=>by rw[e] at v;cases v]))
def nF:Vc I 3 5 LS SG:=λargs Q D h=>by
 apply Lh h;clear h;intro ra q o g;refine⟨rfl,?_⟩;refine g _ λp il W P kind X Y M JG O V K U N hq=>?_;haveI R:AU I JN:=S.dr 27;refine sp_i (S.g 26 rfl) (SE λv n A0 m k1 c F A y=>A8 (AN rfl) λd T=>?_);have f:=k1.live _ T;haveI k2:KP (λp a=>M0 p a\/D.fresh a) D (v.uL d []):=(k1.mono λp a w=>.inl w).trans (KP.AX (.inl (.inr f)));let x:KH Q:=⟨D,ra,q,p,il,X,M,JG,n,A0,m,d,W,P,kind,o,Ab (Bx o) 63,Y,O,V,K,U,N,F,A,y,f,BQ T c.A1,λAq k r C e=>hq Aq n A0 m d k F A y f r C e⟩
 haveI s0:x.St [] [] (v.uL d []) 0:=(λZ B=>B k2 (c.uL (BQ T c.A1)) CC.nil AY (Nat.le_refl 0));haveI l:CI (v.uL d []) q M JG O (BA O):=U.kp k2.drop (λw=>w) (λw=>w) (λw=>w);refine sp_i (R.g 29 rfl) (A8 trivial (A8 (AN rfl) ?_));exists l.FH,Er l.A1;refine DY x.A0 (λZ B=>B _ _ [] [] rfl s0 rfl) ?_ ?_ ?_
 ·exact λi L t y3=>y3 _ λZ Z Z Z Z s Z=>s.kp.drop.A1 _ _ U.A1 λw=>w
 ·intro i va L t KK G j E kn kc kb _;refine j _ λa b r C y2 s H=>?_;rcases y2 with rfl
  rw[Bb] at E;refine AJ (BY.1 E) λh g Br=>?_;subst Br;rw[Ak] at G;exact⟨_,rfl,nB S (a:=a) s g H (λL t w=>⟨kn L t w,kc L t w⟩) λa b r C t s e=>kb _ _ (s.done G e)⟩
 ·intro L t j;refine j _ λa b r C y1 s H=>?_;rcases y1 with rfl
  rw[Ak] at H s;refine s.done (Nat.le_refl _) ?_;rw[H,show x.items=O from rfl,Fx];rfl
end
def nG(h:0<=a/\a<64)(H:0<=b/\b<64):0<=AQ a b/\AQ a b<64:=by
 rcases Il h.1 with⟨x,rfl⟩
 rcases Il H.1 with⟨y,rfl⟩
 haveI W:x<2^6:=A3 0x488021802e60802194015940100041 [_] [] h;haveI O:y<2^6:=A3 0x488021802e60802194015940100041 [_] [] H;haveI e:AQ (x:Int) y=((x||| y:Nat):Int):=by
  unfold AQ Builtin.bitOr Builtin.bitAnd;haveI n:decide (0<=Builtin.bitNot (x:Int))=false:=by simp[Builtin.bitNot];exact Ae 0xc0808500441 [_] []
  haveI N:decide (0<=Builtin.bitNot (y:Int))=false:=by simp[Builtin.bitNot];exact Ae 0xc0808500441 [_] []
  rw[n,N];simp only[Builtin.bitNot];haveI E:(-(-(x:Int)-1)-1).toNat=x:=Ae 0xa004a9080890808500441 [_] [];haveI R:(-(-(y:Int)-1)-1).toNat=y:=Ae 0xa004a9080890808500441 [_] [];rw[E,R];exact Ae 0xd28029080890808500441 [_] []
 refine(e).symm▸?_;haveI:=Nat.or_lt_two_pow W O;exact A3 0x7304010ca00aca0080091004300441 [_] [] this
def nH{h:List Int}{z:Int}(H:h.getLast?=some z):BF (-1) h.length=some (h.length-1):=by
 haveI:h≠[]:=by rintro rfl;simp at H
 haveI:=List.length_pos_iff.2 this;unfold BF;rw[A5 (by exact Ae 0x45902000000 [] []),A6 (by exact A3 0x2c81010a00a40100041 [_] [] this)];congr 1;exact Ae 0x52420004a82802408041 [_] []
def nJ{h:List Int}{z:Int}(H:h.getLast?=some z):(h.map AV.int)[h.length-1]?=some (.int z):=by
 rw[Bb,<-List.getLast?_eq_getElem?,H];rfl
def Bs.uL(h:Bs S a R):Bs (S.uL d l) a R:=h
def SH (P:AM)(K:Int)(k:List Int->Int->Bool->List Int×Int)(i:Int)(h:List Int)(n:Int)(c:Bool):List Int×Int:=
  if c=true/\(i= -1\/K=0) then(h,n)
  else if i= -1 then k (markL h) n c
  else if(P.get i).op=3 then k (if(P.get (i-1)).last=true then h++[i] else h) (AQ n (P.get i).arg) c
  else if(P.get i).op=4/\P.CO=false then k (if(P.get (i-1)).last=true then h++[i] else h) n true
  else k (if(P.get (i-1)).last=true then h++[i] else h) n c
noncomputable def IL (P:AM)(K:Int):List Int->List Int->Int->Bool->List Int×Int
 | [],h,n,_=>(h,n)
 | i::is,h,n,c=>SH P K (IL P K is) i h n c
def nK{P:AM}{K i n:Int}{C h:List Int}{c:Bool}:IL P K (i::C) h n c=SH P K (IL P K C) i h n c:=rfl
noncomputable def IM (h:List Int):List Int:=if h.getLast?=some (-1) then h.dropLast else h
def IP (P:AM)(K:Int)(C:List Int):List Int:=IM (IL P K C [] 0 false).1
def outF (P:AM)(K f:Int)(C:List Int):Int:=
 if(IL P K C [] 0 false).2=0 then Ab f 64 else AQ (Ab f (DN P)) ((IL P K C [] 0 false).2*2^(8:Int).toNat)
def nN(r:Addr)(q:Addr)(f:Int)(Q:PE)(S:AH)(l:Prop):Prop:=
 ∀p Y a P K c I g m C,(Cg S r p Y a P K c I)->(P.Ok)->(CI S q g m C (BA C))->(CC P C)->(∀E h,KP M0 S E->S.fresh h->E.A1 h=some ((IP P K C).map .int)->(IP P K C).length<60->D3 P (IP P K C)->Q (.AA [.obj h,.int (outF P K f C)]) E)->l
def nP(r:Addr)(q:Addr)(f:Int)(Q:PE)(S:AH):Prop:=Ch (nN r q f Q S)
def SI:List AV->PE->AH->Prop:=
 aO λr=>aO λq=>aI λf=>aN λQ S=>nP r q f Q S
def OJ:Tb:=(39,SI)::OI
def OL(o:GW)(h:List Int):Prop:=∃z,h.getLast?=some z/\o.val z (-1)=true
def YH{L:AE}(hd:t.A1 d=some (h.map .int))(W:Cz L x=some (.obj d))(a:∀e,t.fresh e->OL o h->AP I A (Cs (AP I r Q) Q) L (t.uL e []))(b:∀e,t.fresh e->¬OL o h->AP I B (Cs (AP I r Q) Q) L (t.uL e [])):
  AP I (.ite (.and (.Dw true (.J x) (.list .nil)) (.cmp o (.idx (.J x) (.neg (.k (.int 1)))) (.k (.int (-1))))) A B::r) Q L t:=by
 refine pO_i W (A8 (AN rfl) λe H=>pO_i ((BI (BQ H hd)).trans hd) (pO_i AY (A8 (IB _) (FE (λg=>?_) λg=>BW (b e H λ⟨z,w,_⟩=>?_)))))
 ·obtain ⟨z,c⟩:∃z,h.getLast?=some z:=⟨_,Ik λe=>g ((JL h).2 e)⟩;refine pO_i W (A8 (BC (by decide) (by decide)) (pO_i ((BI (BQ H hd)).trans hd) (pO_i (DW (nH c)) (pO_i (nJ c) ?_))));exact⟨λw=>a e H ⟨z,c,w⟩,λw=>b e H λ⟨y,k,m⟩=>by rw[c] at k;cases k;rw[m] at w;cases w⟩
 ·rw[(JL h).1 g] at w;cases w
def last_eq:OL .eq h↔h.getLast?=some (-1):=⟨λ⟨z,a,b⟩=>by rw[a,Cb b],λa=>⟨_,a,rfl⟩⟩
def YI:OL .ne h↔¬(h=[]\/h.getLast?=some (-1)):=by
 constructor
 ·rintro ⟨z,a,b⟩ (rfl| w)
  ·cases a
  ·rw[a] at w;cases w;cases b
 ·intro w;cases H:h.getLast? with
  | none=>exact Ad (.inl (List.getLast?_eq_none_iff.1 H)) w
  | some z=>exact⟨z,H,by refine(?_:(!decide (z= -1))=true);simp;intro e;exact w (.inr (by rw[H,e]))⟩
def YJ(h:List Int):(IM h).length<=h.length:=by unfold IM;split<;>simp
def nQ(h:List Int):(markL h).length<=h.length+1:=by unfold markL;split<;>simp
def YK(w:D3 P h):D3 P (IM h):=λx H=>by
 unfold IM at H;split at H
 ·exact w x (List.dropLast_subset _ H)
 ·exact w x H
def nR{P:AM}{h:List Int}(w:D3 P h){z:Int}(k:0<=z/\z<P.AG.length):D3 P (h++[z]):=λx H=>by
 rcases Bq.1 H with v| v
 ·exact w x v
 ·obtain rfl:=Az.1 v;exact .inr k
def nU(w:D3 P h):D3 P (markL h):=λx H=>by
 unfold markL at H;split at H
 ·exact w x H
 ·rcases Bq.1 H with v| v
  ·exact w x v
  ·exact .inl (Az.1 v)
abbrev KF(S t:AH):Prop:=KP (λp a=>M0 p a\/S.fresh a) S t
section
variable{I:Ag}{Q:PE}{σ A7:AH}{r q p il cl dl:Addr}{as:List Addr}{P:AM}{kind flag:Int}{cs:List Int}{h:List Int}{n:Int}{x5 x6 x7:Option AV}
def YL(K:A7.A4 r 27=some (.int (DN P)))(h:0<=n/\n<64)(f:Q (.AA [.obj dl,.int (if n=0 then Ab flag 64 else AQ (Ab flag (DN P)) (n*2^(8:Int).toNat))]) A7):
  AP I (JH.drop 3) (BB Q) [some (.obj r),some (.obj q),some (.int flag),some (.obj dl),some (.int n),x5,x6,x7] A7:=by
 refine Ai (λg=>?_) (λg=>?_)
 ·rw[A6 g] at f;exact A8 trivial (A8 (AN rfl) f)
 ·rw[A5 g] at f;exact pO_i K (A8 trivial (A8 ⟨BC (A3 0x2c0227735940061b9820086012c0200040 [] [_] h) (A3 0x17dcd65001860139820086012c0200040 [] [_] h),by decide,by decide⟩ (A8 trivial (A8 (AN rfl) f))))
def YM(K:A7.A4 r 27=some (.int (DN P)))(T:KF σ A7)(f:σ.fresh dl)(hd:A7.A1 dl=some (h.map .int))(M:h.length<=10000)(S:0<=n/\n<64)
  (F:∀t,KF σ t->t.A1 dl=some ((IM h).map .int)->Q (.AA [.obj dl,.int (if n=0 then Ab flag 64 else AQ (Ab flag (DN P)) (n*2^(8:Int).toNat))]) t):
  AP I (JH.drop 2) (BB Q) [some (.obj r),some (.obj q),some (.int flag),some (.obj dl),some (.int n),x5,x6,x7] A7:=by
 haveI k2:∀e,A7.fresh e->KF σ (A7.uL e []):=λe H=>T.trans (KP.AX (.inl (.inr (T.live _ H))));refine YH hd (by rfl) (λe H g=>?_) (λe H g=>?_)
 ·refine pO_i ((BI (BQ H hd)).trans hd) (A8 (by unfold room;rw[Ak];exact A3 0x23d09008300509c406300441 [_] [] M) (pO_i (x:=.int (-1)) (by rw[List.getLast?_map,last_eq.1 g];rfl) (A8 (.inr ⟨_,rfl⟩) (YL K S (F _ ((k2 e H).trans (KP.AX (.inl (.inr f)))) (by rw[AY,IM,A6 (last_eq.1 g)];simp))))))
 ·exact YL K S (F _ (k2 e H) (by rw[BI (BQ H hd),IM,A5 λw=>g (last_eq.2 w)];exact hd))
def nV(S:AH)(P:AM)(K f:Int)(C:List Int)(r q d:Addr)(i:Nat)(L:AE)(t:AH)(x X:Option AV)(h:List Int)(n:Int)(c:Bool)(l:Prop):Prop:=
 (L=[some (.obj r),some (.obj q),some (.int f),some (.obj d),some (.int n),some (.bool c),x,X])->(KF S t)->(t.A1 d=some (h.map .int))->(h.length<=i)->(D3 P h)->(0<=n/\n<64)->(IL P K C [] 0 false=IL P K (C.drop i) h n c)->l
def Ha(S:AH)(P:AM)(K f:Int)(C:List Int)(r q d:Addr)(i:Nat)(L:AE)(t:AH)(x X:Option AV)(h:List Int)(n:Int)(c:Bool):Prop:=Ch (nV S P K f C r q d i L t x X h n c)
section
variable{L:AE}(zh:Ha σ P kind flag items r q dl i L A7 x6 x7 h n c)
def Ha.l:=zh _ λz Z Z Z Z Z Z=>z
def Ha.kp:=zh _ λZ z Z Z Z Z Z=>z
def Ha.hd:=zh _ λZ Z z Z Z Z Z=>z
def Ha.hl:=zh _ λZ Z Z z Z Z Z=>z
def Ha.ho:=zh _ λZ Z Z Z z Z Z=>z
def Ha.hn:=zh _ λZ Z Z Z Z z Z=>z
def Ha.re:=zh _ λZ Z Z Z Z Z z=>z
end
def nW(S:AH)(P:AM)(K f:Int)(C:List Int)(r q d:Addr)(i:Nat)(L:AE)(t:AH)(l:Prop):Prop:=
 ∀x X h n c,(Ha S P K f C r q d i L t x X h n c)->l
def nX(S:AH)(P:AM)(K f:Int)(C:List Int)(r q d:Addr)(i:Nat)(L:AE)(t:AH):Prop:=Ch (nW S P K f C r q d i L t)
variable{items:List Int}{i:Nat}{K:Fl->AE->AH->Prop}{c:Bool}{z:Int}{a:Addr}
noncomputable abbrev Hb (r q d:Addr)(f n:Int)(c:Bool)(z:Int)(y:Option AV):AE:=[some (.obj r),some (.obj q),some (.int f),some (.obj d),some (.int n),some (.bool c),some (.int z),y]
def nY(hd:A7.A1 dl=some (h.map .int))(M:h.length<=10000)(T:KF σ A7)(f:σ.fresh dl)(G:∀t,KF σ t->t.A1 dl=some ((markL h).map .int)->K .cont (Hb r q dl flag n c (-1) x7) t):
  AP I [.ite (.and (.Dw true (.J 3) (.list .nil)) (.cmp .ne (.idx (.J 3) (.neg (.k (.int 1)))) (.k (.int (-1))))) [.expr (.append (.J 3) (.k (.int (-1))))] [],.cont] K (Hb r q dl flag n c (-1) x7) A7:=by
 haveI k2:∀e,A7.fresh e->KF σ (A7.uL e []):=λe H=>T.trans (KP.AX (.inl (.inr (T.live _ H))));refine YH hd (by rfl) (λe H g=>?_) (λe H g=>?_)
 ·haveI x:=(BI (l:=[]) (BQ H hd)).trans hd;refine pO_i x (pO_i x (A8 (by unfold room;rw[Ak];exact A3 0x23d09008300509c406300441 [_] [] M) (A8 (.inl rfl) (G _ ((k2 e H).trans (KP.AX (.inl (.inr f)))) (by rw[AY,markL,A5 (YI.1 g)];simp)))))
 ·exact G _ (k2 e H) (by rw[BI (BQ H hd),markL,A6 (Decidable.not_not.1 λw=>g (YI.2 w))];exact hd)
def nZ(V:Cg A7 r p il as P kind cl cs)(Q:Bs A7 a (P.get z))(d:BF z as.length=some z.toNat)(h:as[z.toNat]?=some a)(G:(P.get z).op=3->K .next (Hb r q dl flag (AQ n (P.get z).arg) c z (some (.obj a))) A7)(W:(P.get z).op≠3->(P.get z).op=4/\P.CO=false->K .next (Hb r q dl flag n true z (some (.obj a))) A7)(g:(P.get z).op≠3->¬((P.get z).op=4/\P.CO=false)->K .next (Hb r q dl flag n c z (some (.obj a))) A7)(H:word z):
  AP I ((Bc JH 1).drop 3) K (Hb r q dl flag n c z x7) A7:=by
 exists V.prog,V.pv.AG;refine(DX H V.pv.A1 (Gk d) (Gl h) ?_:);exists Q.op;refine Ai (λy=>?_) (λy=>?_)
 ·exists Q.arg,trivial;exact G y
 ·exists Q.op;refine Ai (λY=>?_) (λY=>BW (g y λw=>Y w.1));exists V.prog,V.pv.CO;cases e:P.CO with
  | false=>exact CT (W y ⟨Y,e⟩)
  | true=>exact BW (g y λw=>by rw[e] at w;cases w.2)
end
section
variable{I:Ag}(S:AU I OI)
include S
theorem nf:Vc I 3 5 JH SI:=λargs Qa σ h=>by
 apply Lh h;clear h;intro r q F f;refine⟨rfl,?_⟩;refine f _ λpa il as P A cl cs ql ms X V K U O hq=>?_;refine A8 (AN rfl) λd T=>A8 (AN rfl) (pO_i U.FH (pO_i (Er ((BI (BQ T U.A1)).trans U.A1)) (DY (nX σ P A F X r q d) (λZ B=>B none none [] 0 false (λZ B=>B rfl (KP.AX (.inl (.inr T))) AY (Nat.zero_le _) (λZ w=>by cases w) (Ae 0x39820086002c0000000 [] []) rfl)) ?_ ?_ ?_)))
 ·exact λi L W y=>y _ λZ Z Z Z Z C=>C.kp.drop.A1 _ _ U.A1 λw=>w
 ·intro i va L W Q N zJ hv Y kc kb _;refine zJ _ λx6 x h n c C=>?_;haveI M:=K.len;haveI j:=O.ln;haveI o:=O.cnt;rw[Bb] at hv;refine AJ (BY.1 hv) λz hz Br=>?_;subst Br;have R:=C.re;rw[show X.drop i=z::X.drop (i+1) from F9 hz,nK,SH] at R;haveI Lz:=O.rg z (Bj hz);have p:=V.kp C.kp.drop (λa w=>w) (λw=>w) (λw=>w);have f:h.length<=10000:=by haveI:=C.hl;rw[Ak] at N;exact Kk 0x4271018c01488210a28018502310220a12100c240a02100545 [_,_,_,_,_] [] N M j o this
  refine⟨_,by rw[C.l];rfl,?_⟩;have body:¬(c=true/\(z= -1\/A=0))->AP I ((Bc JH 1).drop 1) Q (Hb r q d F n c z x) W:=λhb=>by
   rw[A5 hb] at R;refine Ai (λg=>?_) (λg=>?_)
   ·subst g;rw[A6 rfl] at R;exact nY C.hd f C.kp T λt k e=>kc _ _ (λZ B=>B _ _ _ n c (λZ B=>B rfl k e (BE (nQ h) (Nat.succ_le_succ C.hl)) (nU C.ho) C.hn R))
   ·rw[A5 g] at R;have H:=Lz.resolve_left g;refine BX (p.pv.at (i:=z) (A3 0x2c02001cc280201300200041 [_] [_] H) H.2) λa q1 q2 q3=>?_;refine BX (p.pv.at (i:=z-1) (A3 0x16908002001cc280201300200041 [_] [_] H) (A3 0x30a00a420009cc280201300200041 [_] [_] H)) λb r1 r2 r3=>?_;haveI go:∀t v,KF σ t->t.A1 d=some (v.map .int)->v.length<=i+1->D3 P v->(if(P.get (z-1)).last=true then h++[z] else h)=v->
      AP I ((Bc JH 1).drop 3) Q (Hb r q d F n c z x) t:=λt v k e D S eh=>by
     have V3:=V.kp k.drop (λa w=>w) (λw=>w) (λw=>w);refine BX (V3.pv.at (i:=z) (A3 0x2c02001cc280201300200041 [_] [_] H) H.2) λa q1 q2 q3=>?_;rw[eh] at R;refine nZ V3 q2 q3 q1 (λya=>?_) (λy m=>?_) (λy m=>?_) (BC (A3 0x160113b9aca0030dcc280201300200041 [_] [_] H) (AK 0x17dcd6500186012280005cc280201300200041 [_] [_] M H))
     ·rw[A6 ya] at R;exact Y _ _ (λZ B=>B _ _ v _ c (λZ B=>B rfl k e D S (nG C.hn (K.arg z (A3 0x2c02001cc280201300200041 [_] [_] H) H.2)) R))
     ·rw[A5 y,A6 m] at R;exact Y _ _ (λZ B=>B _ _ v _ true (λZ B=>B rfl k e D S C.hn R))
     ·rw[A5 y,A5 m] at R;exact Y _ _ (λZ B=>B _ _ v _ c (λZ B=>B rfl k e D S C.hn R))
    have E:=C.hl;haveI w1:word (z-1):=BC (A3 0xb48400113b9aca0030dcc280201300200041 [_] [_] H) (AK 0xbee6b2800c34840012280005cc280201300200041 [_] [_] M H);exists p.prog,p.pv.AG,trivial;refine(DX w1 p.pv.A1 (Gk r3) (Gl r1) ?_:);exists r2.last;refine Cf (λG=>?_) (λG=>?_)
    ·exists C.hd,C.hd,by unfold room;rw[Ak];exact A3 0x23d09008300509c406300441 [_] [] f,.inl rfl
     exact go _ (h++[z]) (C.kp.trans (KP.AX (.inl (.inr T)))) (by rw[AY];simp) (by simp;exact A3 0x404200a02100482 [_,_] [] E) (nR C.ho (A3 0x1cc2802012c02001cc280201300200041 [_] [_] H)) (A6 G)
    ·exact go _ h C.kp C.hd (A3 0x2101004200a02100482 [_,_] [] E) C.ho (A5 G)
  have brk:c=true/\(z= -1\/A=0)->Q .brk (Hb r q d F n c z x) W:=λw=>by
   rw[A6 w] at R;haveI E:=C.hl;rw[Ak] at N;refine kb _ _ (YM p.kept C.kp T C.hd f C.hn λt k e=>?_);haveI:=hq t d k.drop T;unfold IP outF at this;haveI this:=(R)▸this;exact this e (Nat.lt_of_le_of_lt (YJ h) (Kk 0x243c10c01488210a28018502310220a12100c240a02100545 [_,_,_,_,_] [] N M j o E)) (YK C.ho)
  refine Cf (λA0=>Ai (λG=>CT (brk ⟨A0,.inl G⟩)) λG=>?_) (λA0=>BW (body λw=>A0 w.1));exists p.kind;exact Ai (λl=>brk ⟨A0,.inr l⟩) λl=>body λw=>w.2.elim G l
 ·intro L W zJ;refine zJ _ λx6 x h n c C=>?_;haveI M:=K.len;haveI j:=O.ln;haveI o:=O.cnt;haveI R:=C.re;have E:=C.hl;rw[Ak] at R E;rw[Fx] at R;rw[C.l];refine YM (V.kp C.kp.drop (λa w=>w) (λw=>w) (λw=>w)).kept C.kp T C.hd (Kj 0x213880c600a2800850230c220a121004230a04100504 [_,_,_,_] [] M j o E) C.hn λt k e=>?_;haveI:=hq t d k.drop T;unfold IP outF at this;haveI this:=(R)▸this;exact this e (Nat.lt_of_le_of_lt (YJ h) (Kj 0x121e08600a2800850230c220a121004230a04100504 [_,_,_,_] [] M j o E)) (YK C.ho)
end
structure PC where
 tab:List KY
 De:List (List (Int×Int))
noncomputable def adr (d f:Addr)(S:List Addr)(n:Int):Addr:=if n= -1 then d else if n= -2 then f else S.getD n.toNat 0
def Ed(X:PC)(n:Int):Prop:=n= -1\/n= -2\/(0<=n/\n<X.tab.length)
def nh(S:AH)(r p C:Addr)(a:List Addr)(P:AM)(K:Int)(c:Addr)(I:List Int)(D t d f:Addr)(U W:List Addr)(X:PC)(m:Prop):Prop:=
 (Cg S r p C a P K c I)->(S.A4 r 29=some (.int 40))->(S.A4 r 31=some (.obj D))->(S.A4 r 32=some (.obj t))->(S.A4 r 34=some (.obj d))->(S.A4 r 35=some (.obj f))->(S.AZ D=some (X.tab.zip (U.map .obj)))->(U.length=X.tab.length)->(W.length=X.tab.length)->(X.De.length=X.tab.length)->(∀(j:Nat) k s w,X.tab[j]?=some k->U[j]?=some s->W[j]?=some w->E6 S s j k.1 k.2.1 k.2.2 w)->(∀(j:Nat) w l,W[j]?=some w->X.De[j]?=some l->S.AL w=some (l.map λp=>(p.1,.obj (adr d f U p.2))))->(∃w,E6 S d (-1) [] 0 [] w)->(∃w,E6 S f (-2) [] 64 [] w)->(W.Nodup)->(t∉W)->(∀k∈X.tab,D3 P k.1)->(∀l∈X.De,∀q∈l,Ed X q.2)->m
def BZ(E:AH)(r p C:Addr)(a:List Addr)(P:AM)(K:Int)(c:Addr)(I:List Int)(D t d f:Addr)(S w:List Addr)(X:PC):Prop:=Ch (nh E r p C a P K c I D t d f S w X)
section
variable(zh:BZ σ r p il as P kind cl cs dk ds zV zW ss ws X)
def BZ.Bd:=zh _ λz Z Z Z Z Z Z Z Z Z Z Z Z Z Z Z Z Z=>z
def BZ.Bz:=zh _ λZ z Z Z Z Z Z Z Z Z Z Z Z Z Z Z Z Z=>z
def BZ.JU:=zh _ λZ Z z Z Z Z Z Z Z Z Z Z Z Z Z Z Z Z=>z
def BZ.Hc:=zh _ λZ Z Z z Z Z Z Z Z Z Z Z Z Z Z Z Z Z=>z
def BZ.M1:=zh _ λZ Z Z Z z Z Z Z Z Z Z Z Z Z Z Z Z Z=>z
def BZ.M3:=zh _ λZ Z Z Z Z z Z Z Z Z Z Z Z Z Z Z Z Z=>z
def BZ.tab:=zh _ λZ Z Z Z Z Z z Z Z Z Z Z Z Z Z Z Z Z=>z
def BZ.ls:=zh _ λZ Z Z Z Z Z Z z Z Z Z Z Z Z Z Z Z Z=>z
def BZ.lw:=zh _ λZ Z Z Z Z Z Z Z z Z Z Z Z Z Z Z Z Z=>z
def BZ.lx:=zh _ λZ Z Z Z Z Z Z Z Z z Z Z Z Z Z Z Z Z=>z
def BZ.st:=zh _ λZ Z Z Z Z Z Z Z Z Z z Z Z Z Z Z Z Z=>z
def BZ.wy:=zh _ λZ Z Z Z Z Z Z Z Z Z Z z Z Z Z Z Z Z=>z
def BZ.da:=zh _ λZ Z Z Z Z Z Z Z Z Z Z Z z Z Z Z Z Z=>z
def BZ.fu:=zh _ λZ Z Z Z Z Z Z Z Z Z Z Z Z z Z Z Z Z=>z
def BZ.nd:=zh _ λZ Z Z Z Z Z Z Z Z Z Z Z Z Z z Z Z Z=>z
def BZ.Es:=zh _ λZ Z Z Z Z Z Z Z Z Z Z Z Z Z Z z Z Z=>z
def BZ.hd:=zh _ λZ Z Z Z Z Z Z Z Z Z Z Z Z Z Z Z z Z=>z
def BZ.wr:=zh _ λZ Z Z Z Z Z Z Z Z Z Z Z Z Z Z Z Z z=>z
end
def BZ.kp{M:Pl->Addr->Prop}{E F:AH}{r p C:Addr}{A:List Addr}{P:AM}{K:Int}{I:Addr}{o:List Int}{d t D f:Addr}{S W:List Addr}{X:PC}(h:BZ E r p C A P K I o d t D f S W X)(k:KP M E F)
  (n:∀a,¬M .f a) (N:¬M .l I) (G:¬M .l C) (T:¬M .t d) (B:∀w∈W,¬M .i w):BZ F r p C A P K I o d t D f S W X:=by
 haveI e:=k.A4 r (nn h.Bd.cls) (n r);obtain ⟨L,H⟩:=h.da;rcases h.fu with⟨A0,m⟩
 exact(λZ O=>O (h.Bd.kp k n N G) (by rw[e];exact h.Bz) (by rw[e];exact h.JU) (by rw[e];exact h.Hc) (by rw[e];exact h.M1) (by rw[e];exact h.M3) (k.AZ _ _ h.tab T) h.ls h.lw h.lx (λj a b c q1 Q v=>(h.st j a b c q1 Q v).kp k (n b)) (λj w l q1 Q=>k.AL _ _ (h.wy j w l q1 Q) (B w (Bj q1))) ⟨L,H.kp k (n _)⟩ ⟨A0,m.kp k (n _)⟩ h.nd h.Es h.hd h.wr)
noncomputable def EV (k:KY):List KY->Option Nat
 | []=>none
 | x::r=>if x=k then some 0 else(EV k r).map (· +1)
def YN:EV k (x::r)=if x=k then some 0 else(EV k r).map (· +1):=rfl
def YO(k:KY)(t:List KY)(S:List Addr)(h:S.length=t.length):EW (t.zip (S.map .obj)) k=(EV k t).bind λj=>(S[j]?).map .obj:=by
 induction t generalizing S with
 | nil=>cases S<;>rfl
 | cons x r C=>
  cases S with
  | nil=>cases h
  | cons s S=>
   haveI C:=C S (by simpa using h);unfold EW at C⊢;rw[YN];rw[List.map_cons,List.zip_cons_cons,List.find?_cons];by_cases e:x=k
   ·simp[e]
   ·simp only[e,decide_false,if_false];refine(C).symm▸?_;cases EV k r with
    | none=>rfl
    | some j=>simp
set_option tactic.hygienic true in
def YQ(h:EV k t=some j):t[j]?=some k:=by
 induction t generalizing j with
 | nil=>cases h
 | cons x r C=>
  rw[YN] at h;split at h
  ·rename_i e;cases h;simp[e]
  ·cases H:EV k r with
   | none=>rw[H] at h;cases h
   | some i=>rw[H] at h;cases h;exact(C H)
noncomputable def Et (X:PC)(k:KY):PC×Int:=match EV k X.tab with
 | some j=>(X,j)
 | none=>(⟨X.tab++[k],X.De++[[]]⟩,X.tab.length)
def OM (d:Addr):Pl->Addr->Prop
 | .t,a=>a=d
 | _,_=>False
def YR(d f:Addr)(S:List Addr)(j:Nat):adr d f S j=S.getD j 0:=by
 unfold adr;rw[A5 (by exact Ae 0x8d2040500441 [_] []),A5 (by exact Ae 0x8d2080500441 [_] [])];rfl
def YS(d f:Addr)(S t:List Addr)(n:Int)(h:n= -1\/n= -2\/(0<=n/\n<S.length)):adr d f (S++t) n=adr d f S n:=by
 unfold adr;split
 ·rfl
 ·split
  ·rfl
  ·haveI:n.toNat<S.length:=CA 0x48025009ef730a00804b0080069040009a40800223481000446904000841 [_] [_] h (by assumption) (by assumption);rw[C4,C4,HB this]
def FI{A:Type}{l:List A}{x y:A}{j:Nat}(h:(l++[x])[j]?=some y):(j<l.length/\l[j]?=some y)\/(j=l.length/\y=x):=by
 by_cases q:j<l.length
 ·rw[HB q] at h;exact .inl ⟨q,h⟩
 ·rw[List.getElem?_append_right (A3 0x8084012240108482 [_,_] [] q)] at h;haveI:j-l.length=0:=by
   by_cases w:j-l.length=0
   ·exact w
   ·have:[x][j-l.length]?=none:=by rw[EP];simp;exact A3 0x212108021011400242100482 [_,_] [] w
    exact nO h this
  rw[this] at h;right;exact⟨by exact AK 0xa0840122421005400242100482 [_,_] [] q this,by exact BL h.symm⟩
def SJ{A X:Type}{l:List A}{m:List X}{x:A}{y:X}(h:l.length=m.length):(l++[x]).length=(m++[y]).length:=by rw[CE,CE,h];rfl
def nj{Q:PE}{S:AH}{r p il:Addr}{as:List Addr}{P:AM}{kind:Int}{cl:Addr}{cs:List Int}{D K N V:Addr}{U W:List Addr}{X:PC}(h:BZ S r p il as P kind cl cs D K N V U W X){H C:List Int}{f:Int}
  (Y:X.tab.length<30) (ho:D3 P H) (ON:S.AL K≠none)
  (R:∀o c IQ,KP (OM D) S o->BZ o r p il as P kind cl cs D K N V c IQ (Et X (H,f,C)).1->(∃t,c=U++t)->(∃t,IQ=W++t)->Q (.obj (adr N V c (Et X (H,f,C)).2)) o):
  OD [.obj r,.AA (H.map .int),.int f,.AA (C.map .int)] Q S:=by
 have hT:(X.tab.zip (U.map AV.obj)).length=X.tab.length:=by simp[h.ls]
 refine(λZ E=>E D (X.tab.zip (U.map .obj)) 40 (H,f,C) h.JU h.tab h.Bz ?_ (by unfold room;exact AK 0x8f424020c014f8010a82100482 [_,_] [] Y hT) (nn h.Bd.cls) (λs A0=>?_) (λZ w=>?_) (λI Z s F d fd=>?_))
 ·refine(?_:((Dx (H.map .int)).bind λa=>(some f).bind λf=>(Dx (C.map .int)).map λb=>(a,f,b))=_);rw[ints_map,ints_map];rfl
 ·rw[YO _ _ _ h.ls] at A0;unfold Et at R;cases G:EV (H,f,C) X.tab with
  | none=>rw[G] at A0;cases A0
  | some j=>
   rw[G] at A0 R;simp only[Option.bind_some] at A0;refine AJ (BY.1 A0) λa O Br=>?_;subst Br;haveI:=R S U W KP.refl h ⟨[],(GR _).symm⟩ ⟨[],(GR _).symm⟩;rw[YR] at this;rw[C4,O] at this;exact this
 ·rw[hT] at w;(first| lia| omega)
 ·haveI G:EV (H,f,C) X.tab=none:=by
   cases G:EV (H,f,C) X.tab with
   | none=>rfl
   | some j=>
    haveI A:=YQ G;have:j<X.tab.length:=by
     by_cases w:j<X.tab.length
     ·exact w
     ·rw[EP (A3 0x8084012240108482 [_,_] [] w)] at A;cases A
    rw[YO _ _ _ h.ls,G] at I;simp only[Option.bind_some] at I;rw[Aw (by have:=h.ls;exact AK 0x908401488200a841084c3 [_,_,_] [] (by assumption) this)] at I;cases I
  unfold Et at R;rw[G] at R;haveI ea:GY (X.tab.zip (U.map .obj)) (H,f,C) (.obj s)=(X.tab++[(H,f,C)]).zip ((U++[s]).map .obj):=by
   unfold GY;rw[I];rw[CX,List.zip_append (by simp[h.ls])];simp
  rw[ea,hT];have e:S.fresh d:=(KP.new (M:=M0) (c:=266) F.1).live _ fd;generalize x:((((((S.uN s 266).uF s 19 (.int X.tab.length)).uF s 15 (.AA (H.map .int))).uF s 20 (.int f)).uF s 21 (.AA (C.map .int))).uI d []).uF s 22 (.obj d)=B;have k1:KP M0 S B:=by
   refine(x)▸?_;haveI a:=KP.new (M:=λp a=>M0 p a\/S.fresh a) (σ:=S) (c:=266) F.1;refine KP.drop ((((((a.trans (KP.BK (.inl (.inr F)))).trans (KP.BK (.inl (.inr F)))).trans (KP.BK (.inl (.inr F)))).trans (KP.BK (.inl (.inr F)))).trans (KP.Gq (.inl (.inr e)))).trans (KP.BK (.inl (.inr F))))
  have sv:E6 B s X.tab.length H f C d:=by
   refine(x)▸?_;exact(λZ E=>E (A6 rfl) (fn rfl (fn rfl (fn rfl (fn rfl fe)))) (fn rfl (fn rfl (fn rfl fe))) (fn rfl (fn rfl fe)) (fn rfl fe) fe)
  haveI dv:B.AL d=some []:=by rw[<-x];exact A6 rfl
  have T:=h.kp k1 (λZ w=>w) (λw=>w) (λw=>w) (λw=>w) (λZ Z w=>w);haveI k2:KP (OM D) S (B.uT D ((X.tab++[(H,f,C)]).zip ((U++[s]).map .obj))):=(k1.mono λZ Z w=>w.elim).trans (KP.S4 (.inl rfl));have dn:d∉W:=λw=>by
   refine AW (List.getElem?_of_mem w) λj A=>?_;have:j<X.De.length:=by
    rw[h.lx,<-h.lw];by_cases q:j<W.length
    ·exact q
    ·rw[EP (A3 0x8084012240108482 [_,_] [] q)] at A;cases A
   have:=h.wy j d _ A (Aw this);exact nO this e.2.2.2.1
  have vm:∀n,Ed X n->Ed ⟨X.tab++[(H,f,C)],X.De++[[]]⟩ n:=λn w=>by
   unfold Ed at w⊢;simp only[List.length_append,List.length_singleton];exact A3 0xf7b985404000804b0080069040009a4080027bdcc2802012c02001a4100026902000841 [_] [_] w
  haveI y:=R (B.uT D ((X.tab++[(H,f,C)]).zip ((U++[s]).map .obj))) (U++[s]) (W++[d]) k2 ?_ ⟨[s],rfl⟩ ⟨[d],rfl⟩
  ·simp only at y;rw[YR,C4,<-h.ls,List.getElem?_append_right (Nat.le_refl _)] at y;simpa using y
  ·refine AW T.da λw1 h2=>?_;refine AW T.fu λw2 h3=>?_;haveI rv:=T.Bd;refine(λZ E=>E rv T.Bz T.JU T.Hc T.M1 T.M3 (A6 rfl) (SJ h.ls) (SJ h.lw) (SJ h.lx) (λj k s' w q1 v m=>?_) (λj w l q1 v=>?_) ⟨w1,h2⟩ ⟨w2,h3⟩ ?_ ?_ (λk hk=>?_) (λl Y q R=>?_))
   ·rcases FI q1 with⟨L,q1⟩| ⟨L,rfl⟩
    ·rw[HB (by haveI:=h.ls;exact AK 0x908401488200a841084c3 [_,_,_] [] L this)] at v;rw[HB (by haveI:=h.lw;exact AK 0x908401488200a841084c3 [_,_,_] [] L this)] at m;haveI w:=T.st j k s' w q1 v m;exact w
    ·haveI l2:=h.ls;haveI l3:=h.lw;haveI M:=(FI v).resolve_left (by(first| lia| omega));haveI g:=(FI m).resolve_left (by(first| lia| omega));rw[M.2,g.2,L];exact sv
   ·haveI l2:=h.lw;have l3:=h.lx;obtain ⟨L,q1⟩| ⟨L,rfl⟩:=FI q1
    ·rw[HB (CA 0x1210802a1844150c210a44100504 [_,_,_,_] [] l2 l3 L)] at v;have M:=T.wy j w l q1 v;refine(?_:B.AL w=_);rw[M];congr 1;refine List.map_congr_left λq R=>?_;have va:=h.wr l (Bj v) q R;rw[YS];unfold Ed at va;rw[h.ls];exact va
    ·haveI g:=(FI v).resolve_left (by(first| lia| omega));refine(g.2).symm▸?_;exact dv
   ·rw[List.nodup_append];refine⟨h.nd,by simp,λa O b hb=>?_⟩;haveI:b=d:=Az.1 hb;subst this;intro nk;rcases nk with rfl
    exact dn O
   ·intro w;rcases Bq.1 w with w| w
    ·exact h.Es w
    ·have:K=d:=Az.1 w;rw[this,e.2.2.2.1] at ON;exact ON rfl
   ·rcases Bq.1 hk with w| w
    ·exact h.hd k w
    ·haveI:k=(H,f,C):=Az.1 w;rw[this];exact ho
   ·obtain w| w:=Bq.1 Y
    ·exact vm _ (h.wr l w q R)
    ·have:l=[]:=Az.1 w;rw[this] at R;cases R
def YT(y p f:List Int)(Q:D3 P y)(m:D3 P p)(K:D3 P f):D3 P (Ff y p f):=by
 haveI S:∀l:List Int,D3 P l->D3 P (sortI l):=λl h=>by
  haveI A:∀(a:Int) (l:List Int) (x:Int),x∈insI a l->x=a\/x∈l:=λa l=>by
   induction l with
   | nil=>intro x H;exact .inl (Az.1 H)
   | cons b l C=>
    intro x H;rw[It] at H;split at H
    ·obtain w| w:=Co.1 H
     ·exact .inl w
     ·exact .inr w
    ·obtain w| w:=Co.1 H
     ·exact .inr (by rw[w];exact Dt ..)
     ·rcases C x w with w| w
      ·exact .inl w
      ·exact .inr (GO _ w)
  haveI:∀(l:List Int) (x:Int),x∈sortI l->x∈l:=λl=>by
   induction l with
   | nil=>intro x H;cases H
   | cons a l C=>
    intro x H;rcases A a (sortI l) x H with w| w
    ·rw[w];exact Dt ..
    ·exact GO _ (C x w)
  exact λx H=>h x (this l x H)
 induction y generalizing p f with
 | nil=>
  intro x H;rcases Bq.1 H with w| w
  ·exact K x w
  ·exact S p m x w
 | cons h y C=>
  haveI n:D3 P y:=λx H=>Q x (GO _ H);rw[Ru];split
  ·refine C _ _ n (λZ w=>by cases w) λx H=>?_;obtain w| w:=Bq.1 H
   ·rcases Bq.1 w with w| w
    ·exact K x w
    ·exact S p m x w
   ·left;exact Az.1 w
  ·refine C _ _ n (λx H=>?_) K;obtain w| w:=Bq.1 H
   ·exact m x w
   ·have:x=h:=Az.1 w;rw[this];exact Q h (Dt ..)
def nq{P:AM}{K:Int}{H:List Int}(h:D3 P H):D3 P (JQ K H):=by
 unfold JQ;split
 ·exact YT H [] [] h (λZ w=>by cases w) (λZ w=>by cases w)
 ·split
  ·haveI:=YT (P:=P) [] H [] (λZ w=>by cases w) h (λZ w=>by cases w);exact this
  ·exact h
def zX:True:=trivial
def E7 (P:AM)(K:Int)(X:PC)(C:List Int)(f:Int)(g:List Int):PC×Int:=
 if IP P K C=[]/\outF P K f C=0 then(X,-1)
 else if Ab (outF P K f C) 64≠0/\Lv P K C=true then(X,-2)
 else Et X (JQ K (IP P K C),outF P K f C,if K=2 then sortI g else [])
def nr(r:Addr)(q:Addr)(F:Int)(A:Addr)(Q:PE)(S:AH)(l:Prop):Prop:=
 ∀p Y a P K c I D v d f U w X j m C g,(BZ S r p Y a P K c I D v d f U w X)->(P.Ok)->(CI S q j m C (BA C))->(CC P C)->(S.A1 A=some (g.map .int))->(g.length<60)->(X.tab.length<30)->(S.AL v≠none)->(∀E O W,KP (OM D) S E->BZ E r p Y a P K c I D v d f O W (E7 P K X C F g).1->(∃t,O=U++t)->(∃t,W=w++t)->Q (.obj (adr d f O (E7 P K X C F g).2)) E)->l
def nu(r:Addr)(q:Addr)(f:Int)(C:Addr)(Q:PE)(S:AH):Prop:=Ch (nr r q f C Q S)
def SK:List AV->PE->AH->Prop:=
 aO λr=>aO λq=>aI λf=>aO λC=>aN λQ S=>nu r q f C Q S
def OO:Tb:=(46,SK)::(11,O8)::OJ
def ny(h p f:List Int):(Ff h p f).length<=2*h.length+p.length+f.length:=by
 induction h generalizing p f with
 | nil=>rw[YA];simp[JP];exact Ae 0x8400210a02100482 [_,_] []
 | cons a h C=>
  rw[Ru];split
  ·haveI:=C [] (f++sortI p++[-1]);simp[JP] at this⊢;exact A3 0x10818502088c8080210050842020104611182100504 [_,_,_,_] [] this
  ·haveI:=C (p++[a]) f;simp at this⊢;exact A3 0x10818502088c8080210050818508080411182100504 [_,_,_,_] [] this
def o1(K:Int)(H:List Int):(JQ K H).length<=2*H.length:=by
 haveI S:=ny H [] [];simp at S;unfold JQ;split
 ·exact S
 ·split
  ·rw[JP];exact Ae 0x81180100441 [_] []
  ·exact Ae 0x81180100441 [_] []
def o3{M:Pl->Addr->Prop}(h:S.AL a≠none)(k:KP M S t)(n:¬M .i a):t.AL a≠none:=by
 refine AW (Option.ne_none_iff_exists'.1 h) λl e=>?_;exact nn (k.AL _ _ e n)
section
variable{I:Ag}(S:AU I OJ)
include S
def o5:Vc I 4 2 LU SK:=λargs Q σ ha=>by
 apply Bh ha;clear ha;intro r _ h;apply Bh h;clear h;intro q _ h;apply BN h;clear h;intro flag _ h;apply Cu h;clear h;intro B h;refine⟨rfl,?_⟩;refine h _ λpa il l P A n o dk ds da fu ss ws Xa ql ms C ids V K U O A0 OP hX ON R=>?_;have E:AU I II:=S.dr 5;haveI f:AU I OC:=E.dr 3;have m:I.Ar=Am:=E.m;exists V.Bd.cls,BU m (by decide+kernel:Am 479 13=some 39);refine sp_i (S.g 39 rfl) (λZ L=>L pa il l P A n o ql ms C V.Bd K U O (λt M k1 zY X hlen LC=>A8 (AN rfl) λe he=>?_));unfold E7 at R;generalize IP P A C=H at X hlen LC R;generalize outF P A flag C=F at R⊢;have a:KP M0 σ (t.uL e []):=k1.trans (KP.AX (.inr he.2.1));have W:=(BI (l:=[]) (BQ he X)).trans X;haveI nl:(t.uL e []).A1 e=some []:=AY;generalize t.uL e []=Ee at a W nl⊢;have v:=V.kp a (λZ w=>w) (λw=>w) (λw=>w) (λw=>w) (λZ Z w=>w);haveI U2:=U.kp a (λw=>w) (λw=>w) (λw=>w);haveI c:=R Ee ss ws (a.mono λZ Z w=>w.elim);have d:¬(H=[]/\F=0)->¬(Ab F 64≠0/\Lv P A C=true)->∀Y x,KP M0 Ee Y->x=some (.AA ((if A=2 then sortI ids else []).map .int))->
   AP I (LU.drop 4) (BB Q) [some (.obj r),some (.obj q),some (.int F),some (.obj B),some (.obj M),x] Y:=λT j Y x k3 e5=>by
  refine(e5).symm▸?_;simp only[if_neg T,if_neg j] at R;haveI o6:=k3.A1 _ _ W (λw=>w);haveI k3:=a.trans k3;haveI p:=V.kp k3 (λZ w=>w) (λw=>w) (λw=>w) (λw=>w) (λZ Z w=>w);exists p.Bd.cls,BU m (by decide+kernel:Am 479 17=some 45),p.Bd.cls,BU m (by decide+kernel:Am 479 14=some 40);refine sp_i (f.g 40 rfl) ⟨A,H,p.Bd.kind,o6,by exact A3 0x48802180290f04300441 [_] [] hlen,λOQ xa o4 hx=>?_⟩;haveI D:=k3.trans o4.kp;exists hx,rm (by haveI:=o1 A H;exact AK 0x8f424020c0148782184281182100482 [_,_] [] hlen this);exact sp_i (E.g 45 rfl) (nj (V.kp D (λZ w=>w) (λw=>w) (λw=>w) (λw=>w) (λZ Z w=>w)) hX (nq LC) (o3 ON D λw=>w) λAq OR IQ k5 V5 t1 t2=>R Aq OR IQ ((D.mono λZ Z w=>w.elim).trans k5) V5 t1 t2)
 have y:¬(H=[]/\F=0)->¬(Ab F 64≠0/\Lv P A C=true)->AP I (LU.drop 3) (BB Q) [some (.obj r),some (.obj q),some (.int F),some (.obj B),some (.obj M),none] Ee:=λT j=>by
  exists v.Bd.kind;refine Ai (λg=>?_) (λg=>A8 (AN rfl) (d T j _ _ KP.refl (by rw[A5 g];rfl)));exists a.A1 _ _ A0 (λw=>w),ints_map ids;refine A8 (A3 0x48802180290f04300441 [_] [] OP) λb hb=>?_;exists AY,rm (by rw[JP];exact A3 0x11e84804180290f04300441 [_] [] OP);exact d T j _ _ (KP.AX (.inr hb.2.1)) (by rw[A6 g])
 have N:¬(H=[]/\F=0)->AP I (LU.drop 2) (BB Q) [some (.obj r),some (.obj q),some (.int F),some (.obj B),some (.obj M),none] Ee:=λT=>by
  exists trivial;refine DL (λg=>?_) (λg=>BW (y T λw=>w.1 g));exists v.Bd.cls,BU m (by decide+kernel:Am 479 15=some 41);refine sp_i (f.g 41 rfl) (λZ L=>L pa il l P A n o ql ms C (BA C) v.Bd K U2 (λi A0=>(O.rg i A0).imp id λw=>⟨by exact A3 0x2c02001cc280201300200041 [_] [_] w,w.2⟩) (Cf (λG=>?_) (λG=>y T λw=>G w.2)));rw[A5 T,A6 ⟨g,G⟩] at c;exists v.M3;exact c v ⟨[],by simp⟩ ⟨[],by simp⟩
 exists W,nl,IB _;refine Lf (λg=>Ai (λG=>?_) λG=>N λw=>G w.2) (λg=>BW (N λw=>g ((JL H).2 w.1)));rw[A6 ⟨(JL H).1 g,G⟩] at c;exists v.M1;exact c v ⟨[],by simp⟩ ⟨[],by simp⟩
end
noncomputable def M4 (l:List (Int×Int))(c:Int):Option Int:=(l.find? λx=>decide (x.1=c)).map (·.2)
def YU(l:List (Int×Int))(g:Int->Addr)(c:Int):GX (l.map λq=>(q.1,AV.obj (g q.2))) c=(M4 l c).map λm=>AV.obj (g m):=by
 unfold GX M4;induction l with
 | nil=>rfl
 | cons a l C=>
  rw[List.map_cons,List.find?_cons,List.find?_cons];by_cases e:a.1=c
  ·simp[e]
  ·simp only[e,decide_false];exact C
def o7(h:GX l c=none):Hw l c v=l++[(c,v)]:=by
 unfold Hw;haveI:(l.any λx=>decide (x.1=c))=false:=by
  rw[List.any_eq_false];intro x W H;unfold GX at h;haveI:l.find? (λx=>decide (x.1=c))=none:=by
   cases e:l.find? (λx=>decide (x.1=c)) with
   | none=>rfl
   | some _=>rw[e] at h;cases h
  exact(List.find?_eq_none.1 this) x W H
 simp[this]
def Ef (c:List Int)(o:Int):Int:=if o=256 then 256 else CB c o
def JV (P:AM)(K:Int)(k:KY)(o:Int):List Int×List Int:=HZ P K (λR=>G7 R o) (decide (o=256)) (Ab (Bx o) 63) (IK P K (G8 k.2.1 o) k.1) [] []
def JW (P:AM)(K:Int)(X:PC)(k:KY)(o:Int):PC×Int:=E7 P K X (JV P K k o).1 (if(JV P K k o).2=[] then Bx o else AQ (Bx o) 64) (JV P K k o).2
noncomputable def tabAt (X:PC)(n:Int):KY:=X.tab.getD n.toNat ([],0,[])
noncomputable def Dq (X:PC)(n:Int):List (Int×Int):=X.De.getD n.toNat []
noncomputable def addW (X:PC)(n c m:Int):PC:=⟨X.tab,X.De.set n.toNat (Dq X n++[(c,m)])⟩
def D4 (P:AM)(K:Int)(c:List Int)(X:PC)(n o:Int):PC×Int:=
 if n= -1\/n= -2 then(X,n) else
 match M4 (Dq X n) (Ef c o) with
 | some m=>(X,m)
 | none=>(addW (JW P K X (tabAt X n) o).1 n (Ef c o) (JW P K X (tabAt X n) o).2,(JW P K X (tabAt X n) o).2)
def WB(X:PC)(b:Nat):Prop:=∀l∈X.De,l.length<=b
def o8(X:PC)(k:KY)(b:Nat)(H:WB X b):(Et X k).1.tab.length<=X.tab.length+1/\WB (Et X k).1 b/\Ed (Et X k).1 (Et X k).2/\(∃t,(Et X k).1.tab=X.tab++t)/\∃t,(Et X k).1.De=X.De++t:=by
 unfold Et;cases h:EV k X.tab with
 | some j=>
  haveI:=YQ h;haveI p:j<X.tab.length:=by
   by_cases w:j<X.tab.length
   ·exact w
   ·rw[EP (A3 0x8084012240108482 [_,_] [] w)] at this;cases this
  refine⟨by simp,H,.inr (.inr ⟨by exact Dh _,by simp;exact p⟩),⟨[],by simp⟩,⟨[],by simp⟩⟩
 | none=>
  refine⟨by simp,λl M=>?_,.inr (.inr ⟨by exact Dh _,by simp;exact Ae 0x620202802500441 [_] []⟩),⟨_,rfl⟩,⟨_,rfl⟩⟩;rcases Bq.1 M with w| w
  ·exact H l w
  ·haveI:l=[]:=Az.1 w;rw[this];simp
def YV(P:AM)(K:Int)(X:PC)(O:List Int)(f:Int)(C:List Int)(b:Nat)(h:WB X b):(E7 P K X O f C).1.tab.length<=X.tab.length+1/\WB (E7 P K X O f C).1 b/\Ed (E7 P K X O f C).1 (E7 P K X O f C).2/\
  (∃t,(E7 P K X O f C).1.tab=X.tab++t)/\∃t,(E7 P K X O f C).1.De=X.De++t:=by
 unfold E7;split
 ·exact⟨by simp,h,.inl rfl,⟨[],by simp⟩,⟨[],by simp⟩⟩
 ·split
  ·exact⟨by simp,h,.inr (.inl rfl),⟨[],by simp⟩,⟨[],by simp⟩⟩
  ·exact o8 X _ b h
section
variable{σ:AH}{r p il:Addr}{as:List Addr}{P:AM}{kind:Int}{cl:Addr}{cs:List Int}{dk ds da fu:Addr}{ss ws:List Addr}{X:PC}
def BZ.way(h:BZ σ r p il as P kind cl cs dk ds da fu ss ws X){n c m:Int}{w:Addr}(T:0<=n/\n<X.tab.length)(K:ws[n.toNat]?=some w)(V:Ed X m):
  BZ (σ.uI w ((Dq X n++[(c,m)]).map λp=>(p.1,.obj (adr da fu ss p.2)))) r p il as P kind cl cs dk ds da fu ss ws (addW X n c m):=by
 haveI o:n.toNat<ws.length:=by haveI:=h.lw;exact AK 0x9004a01398508402580400282100482 [_,_] [_] T this
 haveI k:KP (λp a=>match p with| .i=>a=w| _=>False) σ (σ.uI w ((Dq X n++[(c,m)]).map λp=>(p.1,.obj (adr da fu ss p.2)))):=KP.Gq (.inl rfl);refine AW h.da λO U=>?_;refine AW h.fu λA t=>?_;refine(λZ B=>B (h.Bd.kp k (λZ w=>w) (λw=>w) (λw=>w)) h.Bz h.JU h.Hc h.M1 h.M3 h.tab h.ls h.lw (by simp[addW,h.lx]) (λj a b d q1 Q v=>(h.st j a b d q1 Q v).kp k (λw=>w)) (λj W l q1 Q=>?_) ⟨O,U.kp k λw=>w⟩ ⟨A,t.kp k λw=>w⟩ h.nd h.Es h.hd (λl M q R=>?_))
 ·by_cases e:j=n.toNat
  ·subst e;rw[K] at q1;cases q1;simp only[addW] at Q;rw[List.getElem?_set_self (by haveI:=h.lx;exact AK 0x9004a01398508402580400282100482 [_,_] [_] T this)] at Q;cases Q;simp[AH.uI]
  ·simp only[addW] at Q;rw[List.getElem?_set_ne (C1 e)] at Q;haveI H:j<ws.length:=by
    by_cases w:j<ws.length
    ·exact w
    ·rw[EP (A3 0x8084012240108482 [_,_] [] w)] at q1;cases q1
   have N:W≠w:=by
    intro I;rcases I with rfl
    haveI:=(List.nodup_iff_pairwise_ne.1 h.nd);haveI q1:=(Aw H)▸q1;rw[Aw o] at K;haveI E:=BL q1;haveI S:=BL K;haveI L:=List.pairwise_iff_getElem.1 this;rcases Nat.lt_or_gt_of_ne e with g| g
    ·exact L j n.toNat H o g (E.trans S.symm)
    ·exact L n.toNat j o H g (S.trans E.symm)
   refine(?_:(if W=w then _ else σ.AL W)=_);refine(A5 N).symm▸?_;exact h.wy j W l q1 Q
 ·haveI M:l∈X.De.set n.toNat (Dq X n++[(c,m)]):=M;obtain w| w:=List.mem_or_eq_of_mem_set M
  ·exact h.wr l w q R
  ·rw[w] at R;rcases Bq.1 R with w| w
   ·unfold Dq at w;by_cases g:n.toNat<X.De.length
    ·rw[C4,Aw g] at w;exact h.wr _ (Fw g) q w
    ·rw[C4,EP (A3 0x20a0100244802500841 [_] [_] g)] at w;cases w
   ·haveI:q=(c,m):=Az.1 w;rw[this];exact V
def BZ.OS(h:BZ σ r p il as P kind cl cs dk ds da fu ss ws X){n:Int}(H:0<=n/\n<X.tab.length):∃w,ws[n.toNat]?=some w/\E6 σ (adr da fu ss n) n (tabAt X n).1 (tabAt X n).2.1 (tabAt X n).2.2 w/\σ.AL w=some ((Dq X n).map λp=>(p.1,.obj (adr da fu ss p.2))):=by
 have l:=h.ls;haveI L:=h.lw;haveI f:=h.lx;haveI g:n.toNat<X.tab.length:=by exact A3 0x48025009cc2802012c0200041 [_] [_] H
 haveI E:X.tab[n.toNat]?=some (tabAt X n):=by unfold tabAt;rw[C4,Aw g];rfl
 haveI R:ss[n.toNat]?=some (adr da fu ss n):=by
  unfold adr;rw[A5 (by exact A3 0x469020009cc2802012c0200041 [_] [_] H),A5 (by exact A3 0x469040009cc2802012c0200041 [_] [_] H),C4,Aw (by exact AK 0x24012804a084014842500882 [_,_] [_] l g)];rfl
 haveI e:ws[n.toNat]?=some ws[n.toNat]:=Aw (AK 0x24012804a084014842500882 [_,_] [_] L g);haveI e4:X.De[n.toNat]?=some (Dq X n):=by unfold Dq;rw[C4,Aw (by exact AK 0x24012804a084014842500882 [_,_] [_] f g)];rfl
 haveI:=h.st _ _ _ _ E R e;rw[Hr H.1] at this;exact⟨_,e,this,h.wy _ _ _ e e4⟩
def BZ.any(h:BZ σ r p il as P kind cl cs dk ds da fu ss ws X){n:Int}(H:Ed X n):σ.cls (adr da fu ss n)=some 266/\σ.A4 (adr da fu ss n) 19=some (.int n):=by
 rcases H with rfl| rfl| H
 ·refine AW h.da λw q=>?_;exact⟨q.cls,q.num⟩
 ·refine AW h.fu λw q=>?_;exact⟨q.cls,q.num⟩
 ·refine BX (h.OS H) λw Z q Z=>?_;exact⟨q.cls,q.num⟩
end
def MA:Pl->Addr->Prop
 | .t,_=>True
 | .i,_=>True
 | _,_=>False
def YW:∀p a,OM d p a->MA p a:=λp a w=>by cases p<;>first| trivial| exact w.elim
def o9(r:Addr)(s:Addr)(o:Int)(Q:PE)(I:AH)(l:Prop):Prop:=
 ∀p C a P K w c L D d f U W X n b,(BZ I r p C a P K w c L D d f U W X)->(P.Ok)->(s=adr d f U n)->(Ed X n)->(X.tab.length<30)->(I.AL D≠none)->(WB X b)->(b<=100)->((o≠256->c.length<=1000/\c.Pairwise (· < ·)/\∃x t,c=x::t/\x<=o))->(∀S O g,KP MA I S->BZ S r p C a P K w c L D d f O g (D4 P K c X n o).1->Ed (D4 P K c X n o).1 (D4 P K c X n o).2->WB (D4 P K c X n o).1 (b+1)->(D4 P K c X n o).1.tab.length<=X.tab.length+1->
    S.AL D≠none->Q (.obj (adr d f O (D4 P K c X n o).2)) S)->l
def oA(r:Addr)(s:Addr)(o:Int)(Q:PE)(S:AH):Prop:=Ch (o9 r s o Q S)
def SM:List AV->PE->AH->Prop:=
 aO λr=>aO λs=>aI λo=>aN λQ S=>oA r s o Q S
def SN:Tb:=(48,SM)::OO
def JX{M:Pl->Addr->Prop}(k:KP M S E)(h:S.AL d≠none)(n:¬M .i d):E.AL d≠none:=by
 cases e:S.AL d with
 | none=>exact Ad e h
 | some l=>exact nn (k.AL _ _ e n)
section
variable{I:Ag}(S:AU I OO)
include S
def oC:Vc I 3 5 Nt SM:=λargs Q W ha=>by
 apply Lh ha;clear ha;intro ra s o hh;refine⟨rfl,?_⟩;refine hh _ λpa il as P A cl c dk ds d f U ws X n b V K y1 T hX t L hb oD h=>?_;rcases y1 with rfl
 haveI oE:AU I OJ:=S.dr 2;haveI Y:AU I OI:=oE.dr 1;have oG:AU I II:=Y.dr 4;have S1:AU I JN:=oG.dr 25;have mm:I.Ar=Am:=S1.m;refine AW V.da λwd SO=>?_;refine AW V.fu λwf SP=>?_;refine Ac (λvc v=>?_) (V.any T);have done:(D4 P A c X n o)=(X,n)->Q (.obj (adr d f U n)) W:=λe=>by
  have:=h W U ws KP.refl (by rw[e];exact V) (by rw[e];exact T) (by rw[e];exact λl H=>by have:=L l H;exact A3 0x2101004200a02100482 [_,_] [] this) (by rw[e];simp) t;rw[e] at this;exact this
 have YX:adr d f U n=d->n= -1:=λe=>by
  rw[e,SO.num] at v;cases v;rfl
 have YY:adr d f U n=f->n= -2:=λe=>by
  rw[e,SP.num] at v;cases v;rfl
 exists V.M1,vc,SO.cls;refine Lf (λg=>CT (done (by unfold D4;rw[A6 (.inl (YX g))]))) (λg=>?_);exists V.M3,vc,SP.cls;refine Lf (λG=>done (by unfold D4;rw[A6 (.inr (YY G))])) (λG=>?_);have O:0<=n/\n<X.tab.length:=by
  obtain rfl| rfl| T:=T
  ·exact Ad rfl g
  ·exact Ad rfl G
  ·exact T
 have R7:¬(n= -1\/n= -2):=by exact A3 0x23da41000269020009cc2802012c0200041 [_] [_] O
 refine BX (V.OS O) λw hw st YZ=>?_;unfold D4 at h;rw[A5 R7] at h;clear done YX YY g G SO SP vc v;have R:AP I (Nt.drop 2) (BB Q) [some (.obj ra),some (.obj (adr d f U n)),some (.int o),some (.int (Ef c o)),none,none,none,none] W:=by
  have ev:=YU (Dq X n) (adr d f U) (Ef c o);have j:n.toNat<X.De.length:=by have:=V.lx;exact AK 0x9004a01398508402580400282100482 [_,_] [_] O this
  have e4:Dq X n=X.De[n.toNat]:=by unfold Dq;rw[C4,Aw j];rfl
  exists st.wd,YZ;refine kZ (λva p=>?_) (λp=>?_)
  ·rw[ev] at p;refine AJ (BY.1 p) λm A0 D=>?_;subst D;rw[A0] at h;simp only at h;have hm:Ed X m:=by
    unfold M4 at A0;refine AJ (BY.1 A0) λya hy D=>?_;subst D;have Yb:=List.mem_of_find?_eq_some hy;rw[e4] at Yb;exact V.wr _ (Fw j) ya Yb
   have:=h W U ws KP.refl V hm (λl H=>by have:=L l H;exact A3 0x2101004200a02100482 [_,_] [] this) (Ae 0x1080800100441 [_] []) t;exists st.wd,YZ,ev.trans (by rw[A0];rfl);exact this
  ·have A0:M4 (Dq X n) (Ef c o)=none:=by
    rw[ev] at p;exact Option.map_eq_none_iff.1 p
   rw[A0] at h;exists V.Bd.cls,BU mm (by decide+kernel:Am 479 12=some 38),V.Bd.cls,BU mm (by decide+kernel:Am 479 11=some 37);have Yc:D3 P (tabAt X n).1:=V.hd _ (by unfold tabAt;rw[C4,Aw (by exact A3 0x48025009cc2802012c0200041 [_] [_] O)];exact Fw _);refine sp_i (Y.g 37 rfl) (λZ B=>B pa il as P A cl c _ _ _ _ _ V.Bd K st Yc (λG9 q ql ms k1 f1 f2 f3 Ua Oa=>?_));have a:=V.kp k1 (λZ w=>w) (λw=>w) (λw=>w) (λw=>w) (λZ Z w=>w);refine sp_i (Y.g 38 rfl) (λZ B=>B pa il as P A cl c ql ms _ a.Bd K Ua Oa (λEe q' oH oI dl k2 oJ oK oM zZ E C SQ y O2 Hd OP=>?_));have V2:=a.kp k2 (λZ w=>w) (λw=>w) (λw=>w) (λw=>w) (λZ Z w=>w);have SQ:JV P A (tabAt X n) o=(E,C):=SQ.symm;refine sp_i (S1.g 29 rfl) (A8 (AN rfl) λe he=>?_);have k3:KP M0 Ee (Ee.uL e []):=KP.AX (.inr he.2.1);have V3:=V2.kp k3 (λZ w=>w) (λw=>w) (λw=>w) (λw=>w) (λZ Z w=>w);have U3:=y.uL (BQ he y.A1) (l:=[]);have Yd:=(BI (l:=[]) (BQ he Hd)).trans Hd;have kk:=(k1.trans k2).trans k3;exists Yd,AY,IB _;clear a V2 y Hd k1 k2 k3 Ua Oa f1 f2 f3 oJ oK oM;have Ye:∀F,F=(if C=[] then Bx o else AQ (Bx o) 64)->AP I (Nt.drop 6) (BB Q) [some (.obj ra),some (.obj (adr d f U n)),some (.int o),some (.int (Ef c o)),some (.obj q'),some (.obj dl),some (.int F),none] (Ee.uL e []):=λF eF=>by
    subst eF;exists V3.Bd.cls,BU mm (by decide+kernel:Am 479 18=some 46);have M5:=YV P A X E (if C=[] then Bx o else AQ (Bx o) 64) C b L;unfold JW at h;rw[SQ] at h;simp only at h;refine sp_i (S.g 46 rfl) (λZ B=>B pa il as P A cl c dk ds d f U ws X oH oI E C V3 K U3 O2 Yd OP hX (JX kk t (λw=>w)) (λOQ OR IQ k4 N M t2=>?_));generalize E7 P A X E (if C=[] then Bx o else AQ (Bx o) 64) C=ya at h M5 N⊢;obtain ⟨x,m⟩:=ya;refine My M5 λs1 s2 s3 D G0=>?_;obtain ⟨tt,s4⟩:=D;obtain ⟨tw,s5⟩:=G0;obtain ⟨M,rfl⟩:=M;obtain ⟨t2,rfl⟩:=t2;simp only at s1 s2 s3 s4 s5 h N⊢;have Yg:0<=n/\n<x.tab.length:=by rw[s4];simp;exact A3 0x1cc414212802012c02001cc2802012c0200082 [_,_] [_] O
    refine BX (N.OS Yg) λw4 oN Yh Yi=>?_;have ea:adr d f (U++M) n=adr d f U n:=YS _ _ _ _ _ (by rw[V.ls];exact T);rw[ea] at Yh;have ew:Dq x n=Dq X n:=by
     unfold Dq;rw[s5,C4,HB j,<-C4]
    have Yj:(Dq X n).length<=b:=by rw[e4];exact L _ (Fw j)
    have V5:=N.way Yg oN s3 (c:=Ef c o);rw[ew,CX] at V5;rw[ew] at Yi;refine CT ?_;exists Yh.wd,Yi;refine A8 (by unfold room;rw[Ak];exact AK 0x23d09008300503208610a02100482 [_,_] [] hb Yj) ?_;have Ra:Q (.obj (adr d f (U++M) m)) (OQ.uI w4 _):=h _ _ _ (((kk.mono λZ Z w=>w.elim).trans (k4.mono YW)).trans (KP.Gq (.inl trivial))) V5 s3 (λl H=>?_) s1 ?_
    ·rw[o7 (by rw[YU,A0];rfl)];exact Ra
    ·have H:l∈x.De.set n.toNat (Dq x n++[(Ef c o,m)]):=H;obtain w| w:=List.mem_or_eq_of_mem_set H
     ·have:=s2 l w;exact A3 0x2101004200a02100482 [_,_] [] this
     ·rw[w,ew];simp;exact A3 0x404200a02100482 [_,_] [] Yj
    ·have h4:=JX k4 (JX kk t (λw=>w)) (λw=>w);intro w;have w:(if ds=w4 then _ else OQ.AL ds)=none:=w;split at w
     ·cases w
     ·exact h4 w
   refine FE (λg5=>?_) (λg5=>Ye _ (by rw[A6 ((JL C).1 g5)]));exists trivial;exact Ye _ (by rw[A5 λw=>g5 (by rw[w];rfl)];rfl)
 refine Ai (λr=>?_) (λr=>?_)
 ·have:Ef c o=256:=by unfold Ef;rw[A6 r]
  rw[this] at R;exact R
 ·exists V.Bd.Y8;refine C9 (oD r) λc1 c2 c3=>?_;refine sp_i (S.g 11 rfl) ⟨c,V.Bd.cl,c1,c2,c3,?_⟩;have:Ef c o=CB c o:=by unfold Ef;rw[A5 r]
  rw[this] at R;exact R
end
def Eg (P:AM)(K:Int)(X:PC)(t:List Int)(a:Int)(l:Bool):PC×Int:=
 E7 P K X (Ec P K (Ab (Fe P.rev t a) 63) (if l=true then P.loose else P.start) []) (Fe P.rev t a) []
def oO(r:Addr)(t:List Int)(a:Int)(l:Bool)(Q:PE)(I:AH)(m:Prop):Prop:=
 ∀p C A P K c o L d D f U w X b,(BZ I r p C A P K c o L d D f U w X)->(P.Ok)->(X.tab.length<30)->(I.AL d=some [])->(WB X b)->(room t.length)->(0<=a)->(a<=t.length)->(∀S O W,KP MA I S->BZ S r p C A P K c o L d D f O W (Eg P K X t a l).1->Ed (Eg P K X t a l).1 (Eg P K X t a l).2->WB (Eg P K X t a l).1 b->(Eg P K X t a l).1.tab.length<=X.tab.length+1->
    S.AL d≠none->Q (.obj (adr D f O (Eg P K X t a l).2)) S)->m
def oP(r:Addr)(t:List Int)(a:Int)(l:Bool)(Q:PE)(S:AH):Prop:=Ch (oO r t a l Q S)
def SR:List AV->PE->AH->Prop:=
 aO λr=>aY λt=>aI λa=>aB λl=>aN λQ S=>oP r t a l Q S
def oQ(r:Bool)(t:List Int)(a:Int):0<=Fe r t a/\Fe r t a<=1000:=by
 haveI h:AQ 4 1=5:=by decide+kernel
 haveI f:∀x,0<=Bx x/\Bx x<=1000:=λx=>by
  unfold Bx;split
  ·exact Ae 0x397f4086002c0000000 [] []
  ·split
   ·exact Ae 0x397f4086102c2000000 [] []
   ·split<;>(first| lia| omega)
 unfold Fe;refine(h).symm▸?_;split
 all_goals
  simp only;split
  ·(first| lia| omega)
  ·exact f _
def M6:Tb:=(47,SR)::SN
section
variable{I:Ag}(S:AU I SN)
include S
def oR:Vc I 4 4 LV SR:=λargs Q σ hc=>by
 apply Bh hc;clear hc;intro r _ h;apply EZ h;clear h;intro t _ h;apply BN h;clear h;intro a _ h;apply O3 h;clear h;intro l _ h;apply DM h;clear h;intro h;refine⟨rfl,?_⟩;refine h _ λp Y G P B C o dk D d F ss ws X b V K hX L oS ht ha JY H=>?_;have W:AU I OO:=S.dr 1;have e:AU I Ly:=W.dr 5;have x:AU I Lp:=e.dr 9;have m:I.Ar=Am:=x.m;haveI j:=oQ P.rev t a;exists V.Bd.cls,BU m (by decide+kernel:Am 479 16=some 42);refine sp_i (x.g 42 rfl) (λZ E=>E p Y G P B C o V.Bd ht ha JY ?_);unfold Eg at H;generalize Fe P.rev t a=f at j H⊢;haveI wf:word f/\word 2:=⟨BC (A3 0x2c0227735940061b97f4086012c0200040 [] [_] j) (A3 0x17dcd650018601397f4086012c0200040 [] [_] j),BC (Ae 0x162013b9aca0030c00 [] []) (Ae 0xbee6b2800c310000 [] [])⟩;haveI T:∀A:Int,AP I (LV.drop 2) (BB Q) [some (.obj r),some (.bytes t),some (.int a),some (.bool l),some (.int f),some (.int A),none,none] σ:=λA=>by
  exists V.Hc,L;refine Xv (λZ=>?_) (λZ w=>(by cases w));refine sp_i (e.g 26 rfl) (SE λG9 q ql ms k1 U1 f1 A0 f3=>?_);have v:=V.kp k1 (λZ w=>w) (λw=>w) (λw=>w) (λw=>w) (λZ Z w=>w);have R:∀hd:Int,hd=(if l=true then P.loose else P.start)->I.spec 36 [.obj r,.obj q,.int hd,.int (Ab f 63)] (λva A7=>(va=AV.none\/∃i,va=AV.int i)/\AP I ((Bc LV 2).drop 2) (Cs (AP I (LV.drop 3) (BB Q)) (BB Q)) [some (.obj r),some (.bytes t),some (.int a),some (.bool l),some (.int f),some (.int A),some (.obj q),none] A7) G9:=λhd Yk=>by
   haveI H:=(Yk).symm▸H;haveI oU:hd= -1\/(0<=hd/\hd<P.AG.length):=by
    right;refine(Yk).symm▸?_;split
    ·exact K.loose
    ·exact K.start
   refine sp_i (e.g 36 rfl) (λZ E=>E p Y G P B C o ql ms [] v.Bd K U1 CC.nil (OH A0 V.Bd.cl) (OH A0 V.Bd.pv.A1) oU (λEe k2 U M=>A8 (.inl rfl) ?_));have Yl:KP M0 σ Ee:=((k1.mono λZ Z w=>w.elim).trans (k2.mono (YG A0 f3))).drop;have V2:=V.kp Yl (λZ w=>w) (λw=>w) (λw=>w) (λw=>w) (λZ Z w=>w);generalize Ec P B (Ab f 63) hd []=it at U M H;exists V2.Bd.cls,BU m (by decide+kernel:Am 479 18=some 46);refine A8 (AN rfl) λza Ym=>?_;have k3:=Yl.trans (KP.AX (l:=[]) (.inr Ym.2.1));refine sp_i (W.g 46 rfl) (λZ E=>E p Y G P B C o dk D d F ss ws X ql ms it [] (V.kp k3 (λZ w=>w) (λw=>w) (λw=>w) (λw=>w) (λZ Z w=>w)) K (U.uL (BQ Ym U.A1)) M AY (AN rfl) hX (JX k3 (nn L) (λw=>w)) (λc O IQ k4 N t1 t2=>?_));haveI M5:=YV P B X it f [] b oS;generalize E7 P B X it f []=y at H M5 N⊢;refine My M5 λs1 s2 s3 Z Z=>?_;haveI oV:c.AL D=some []:=k4.AL _ _ (k3.AL _ _ L (λw=>w)) (λw=>w);haveI k5:KP (λp a=>match p with| .i=>a=D| _=>False) c (c.uI D [(A,.obj (adr d F O y.2))]):=KP.Gq (.inl rfl);haveI n:=N.kp k5 (λZ w=>w) (λw=>w) (λw=>w) (λw=>w) (λw hw ea=>N.Es (ea▸hw));have e5:(c.uI D [(A,AV.obj (adr d F O y.2))]).AL D=some [(A,.obj (adr d F O y.2))]:=A6 rfl;haveI e6:GX [(A,AV.obj (adr d F O y.2))] A=some (.obj (adr d F O y.2)):=by simp[GX]
   refine BW ?_;exists N.Hc,oV;refine A8 (AN rfl) ?_;exists n.Hc,e5,e6;exact H _ _ _ (((k3.mono λZ Z w=>w.elim).trans (k4.mono YW)).trans (KP.Gq (.inl trivial))) n s3 s2 s1 (λw=>by cases e5.symm.trans w)
  exists v.Bd.cls,BU m (by decide+kernel:Am 479 10=some 36);refine Cf (λg=>?_) (λg=>?_)
  ·exists v.Bd.prog,v.Bd.pv.loose,trivial;exact R P.loose (by rw[A6 g])
  ·exists v.Bd.prog,v.Bd.pv.start,trivial;exact R P.start (by rw[A5 g])
 refine Cf (λZ=>?_) (λZ=>?_)
 ·exists wf,trivial;exact T _
 ·exists wf;exact T _
end
def Yn(h:∀E s d,KP M0 S E->E6 E s n GL o ids d->E.AL d=some []->S.fresh s->S.fresh d->Q (.obj s) E):CN KD 266 [.int n,.AA (GL.map .int),.int o,.AA (ids.map .int)] Q S:=by
 intro s f;refine⟨ce,λd P=>⟨rfl,?_⟩⟩;haveI F:S.fresh d:=(KP.new (M:=M0) (c:=266) f.1).live _ P;haveI a:=KP.new (M:=λp a=>M0 p a\/S.fresh a) (σ:=S) (c:=266) f.1;refine h _ s d (KP.drop ((((((a.trans (KP.BK (.inl (.inr f)))).trans (KP.BK (.inl (.inr f)))).trans (KP.BK (.inl (.inr f)))).trans (KP.BK (.inl (.inr f)))).trans (KP.Gq (.inl (.inr F)))).trans (KP.BK (.inl (.inr f))))) ?_ (A6 rfl) f F;refine(λZ B=>B (ce:(S.uN s 266).cls s=_) ?_ ?_ ?_ ?_ ?_)<;>repeat first| exact fe| refine fn rfl ?_
def MF (r:Addr):Pl->Addr->Prop
 | .f,a=>a=r
 | _,_=>False
def M7:List AV->PE->AH->Prop:=
 aO λr=>aO λp=>aI λA=>aI λm=>aN λQ S=>m=40/\S.cls r=some 479/\∃C a P c I,BJ S p C a P/\r≠p/\r∉a/\S.A4 p 18=some (.obj c)/\S.A1 c=some (I.map AV.int)/\
   ∀E K d D f,KP (MF r) S E->BZ E r p C a P A c I K d D f [] [] ⟨[],[]⟩->E.AL d=some []->Q .none E
def oW(t:AH)(r p:Addr)(K k:Int)(c d D:Addr)(l:Prop):Prop:=
 (t.A4 r 25=some (.obj p))->(t.A4 r 26=some (.int K))->(t.A4 r 27=some (.int k))->(t.A4 r 28=some (.obj c))->(t.A4 r 29=some (.int 40))->(t.A4 r 31=some (.obj d))->(t.A4 r 32=some (.obj D))->l
def Eh(t:AH)(r p:Addr)(K k:Int)(c d D:Addr):Prop:=Ch (oW t r p K k c d D)
section
variable(zh:Eh A7 r p kind k cl dk ds)
def Eh.Yo:=zh _ λz Z Z Z Z Z Z=>z
def Eh.Yp:=zh _ λZ z Z Z Z Z Z=>z
def Eh.Yq:=zh _ λZ Z z Z Z Z Z=>z
def Eh.Yr:=zh _ λZ Z Z z Z Z Z=>z
def Eh.Ys:=zh _ λZ Z Z Z z Z Z=>z
def Eh.JU:=zh _ λZ Z Z Z Z z Z=>z
def Eh.Hc:=zh _ λZ Z Z Z Z Z z=>z
end
def Eh.kp{t T:AH}{r p:Addr}{K k:Int}{I d D c:Addr}(h:Eh t r p K k I d D)(kp:KP M0 t T)(H:t.cls r=some c):Eh T r p K k I d D:=by
 haveI e:=kp.A4 r (by rw[H];exact nofun) λw=>w;exact(λZ B=>B ((congrFun e _).trans h.Yo) ((congrFun e _).trans h.Yp) ((congrFun e _).trans h.Yq) ((congrFun e _).trans h.Yr) ((congrFun e _).trans h.Ys) ((congrFun e _).trans h.JU) ((congrFun e _).trans h.Hc))
def Eh.put{T:AH}{r p:Addr}{K k:Int}{c D t:Addr}{f:Nat}{v:AV}(h:Eh T r p K k c D t)(j:Nat.ble f 33=false):Eh (T.uF r f v) r p K k c D t:=by
 haveI n:∀g,Nat.ble g 33=true->Nat.beq g f=false:=λg H=>Bool.eq_false_iff.2 λe=>by rw[Nat.eq_of_beq_eq_true e,j] at H;cases H
 exact(λZ B=>B (fn (n _ rfl) h.Yo) (fn (n _ rfl) h.Yp) (fn (n _ rfl) h.Yq) (fn (n _ rfl) h.Yr) (fn (n _ rfl) h.Ys) (fn (n _ rfl) h.JU) (fn (n _ rfl) h.Hc))
def Yt{A:Type}{j:Nat}{e:A}(h:([]:List A)[j]?=some e):False:=nO h List.getElem?_nil
def OT:Tb:=(43,M7)::(44,CN M7 479)::M6
def DO(S:AH)(a b:Addr)(f g:Nat)(v:AV):(S.uF a f v).A4 b g=if b=a/\g=f then some v else S.A4 b g:=rfl
def BJ.pos{p C:Addr}(h:BJ S p C A P)(n:r≠p)(N:r∉A)(k:KP (MF r) S E):BJ E p C A P:=h.kp k (λw=>n w.symm) (λw=>w) (λa H w=>N (by rw[<-w];exact H))
section
variable{I:Ag}(S:AU I M6)
include S
def oX{Q:PE}{E t:AH}{r p Y c K d:Addr}{a:List Addr}{P:AM}{C:Int}{M:List Int}(hr:E.cls r=some 479)(V:BJ E p Y a P)(n1:r≠p)(n2:r∉a)(m:E.A1 c=some (M.map AV.int))
  (hq:∀G K d R X,KP (MF r) E G->BZ G r p Y a P C c M K d R X [] [] ⟨[],[]⟩->G.AL d=some []->Q .none G) (g:KP (MF r) E t) (F:Eh t r p C (DN P) c K d) (x:t.AZ K=some []) (y:t.AL d=some []):
  AP I (Nr.drop 6) (BB Q) [some (.obj r),some (.obj p),some (.int C),some (.int 40),some (.int 10)] t:=by
 have L:AU I II:=S.dr 9;exists (AN rfl:([]:List AV).length<=100),(AN rfl:([]:List AV).length<=100);have h:=g.cls _ _ hr;refine sp_i (L.g 21 rfl) (Yn (GL:=[]) (ids:=[]) λA D j k1 GU Yc U zb=>?_);haveI oY:=k1.cls _ _ h;exists oY,Bf true,(AN rfl:([]:List AV).length<=100),(AN rfl:([]:List AV).length<=100);have N:D≠r:=λw=>by have:=U.1;exact nO (w▸h) this
 have k2:KP (MF r) A (A.uF r 34 (.obj D)):=KP.BK (.inl rfl);haveI f:=(F.kp k1 h).put (f:=34) (v:=.obj D) rfl;haveI e:(A.uF r 34 (.obj D)).A4 r 34=some (.obj D):=fe;haveI T:=(k1.mono (N:=MF r) λZ Z w=>w.elim).trans k2;haveI Io:=GU.kp k2 N;generalize A.uF r 34 (.obj D)=Ee at k2 f e T Io⊢;have H:=T.cls _ _ h;refine sp_i (L.g 21 rfl) (Yn (GL:=[]) (ids:=[]) λO o l k3 oZ zc W zd=>?_);haveI oe:=k3.cls _ _ H;exists oe,Bf true;have og:o≠r:=λw=>by have:=W.1;exact nO (w▸H) this
 have B:KP (MF r) O (O.uF r 35 (.obj o)):=KP.BK (.inl rfl);have v:=(T.trans (k3.mono (N:=MF r) λZ Z w=>w.elim)).trans B;refine((f.kp k3 H).put (f:=35) (v:=.obj o) rfl) _ λx1 x2 x3 x4 x5 x6 x7=>?_;haveI n:=g.trans v;exact hq _ K d D o n (λZ A0=>A0 (λZ A0=>A0 (v.cls _ _ h) x1 x2 x3 x4 (n.A1 _ _ m (λw=>w)) (V.pos n1 n2 n)) x5 x6 x7 (fn rfl ((congrFun (k3.A4 r (by rw[H];exact nofun) λw=>w) 34).trans e)) fe (v.AZ _ _ x (λw=>w)) rfl rfl rfl (λja k s w q=>(Yt q).elim) (λja w la q=>(Yt q).elim) ⟨j,((Io.kp k3 (λw=>w)).kp B N)⟩ ⟨l,oZ.kp B og⟩ (List.nodup_nil) (List.not_mem_nil) (λk hk=>(by cases hk)) (λla hl=>(by cases hl))) (v.AL _ _ y (λw=>w))
def oh(a:List AV)(Q:PE)(D:AH)(h:M7 a Q D):a.length=4/\Dz I 0 Nr (a++[.int 10]) Q D:=by
 apply Xr h;clear h;intro r p A m e;refine⟨rfl,?_⟩;obtain ⟨rfl,H,Y,as,P,cl,cs,V,n,N,C,c,R⟩:=e;haveI E:AU I II:=S.dr 9;haveI K:KP (MF r) D ((D.uF r 25 (.obj p)).uF r 26 (.int A)):=(KP.BK (.inl rfl)).trans (KP.BK (.inl rfl));refine sp_i (E.g 34 rfl) ⟨H,Y,as,P,V.pos n N K,?_⟩;have k1:KP (MF r) D (((D.uF r 25 (.obj p)).uF r 26 (.int A)).uF r 27 (.int (DN P))):=K.trans (KP.BK (.inl rfl));refine .inl ⟨cl,(congrFun (k1.A4 p (by rw[V.cls];exact nofun) λw=>n w.symm) 18).trans C,k1.cls _ _ V.cls,H,.inl rfl,?_⟩;exists H,Bf true,H,Bf true;intro d F;exists H,Bf true;intro t f;have G:D.fresh t:=(KP.S4 (M:=λZ Z=>True) (σ:=D) (a:=d) (l:=[]) (.inl trivial)).live _ f;exists H,Bf true,H,Bf true;refine oX S H V n N c R (KP.drop ((((((((((k1.mono λZ Z w=>.inl w).trans (KP.BK (.inl (.inl rfl)))).trans (KP.BK (.inl (.inl rfl)))).trans (KP.BK (.inl (.inl rfl)))).trans (KP.S4 (.inl (.inr F)))).trans (KP.BK (.inl (.inl rfl)))).trans (KP.Gq (.inl (.inr G)))).trans (KP.BK (.inl (.inl rfl)))).trans (KP.BK (.inl (.inl rfl)))))) ?_ (A6 rfl) (A6 rfl);refine(λZ B=>B ?_ ?_ ?_ ?_ ?_ ?_ ?_)<;>repeat first| exact fe| refine fn rfl ?_
end
def OU:List AV->PE->AH->Prop:=
 aO λs=>aY λo=>aB λf=>aN λQ S=>S.cls s=some 540/\∀d,S.fresh d->Q .none ((((S.uF s 36 (.bytes o)).uF s 6 (.bool f)).uI d []).uF s 37 (.obj d))
def SS:List AV->PE->AH->Prop:=
 aO λs=>aY λZ=>aI λb=>aI λZ=>aN λQ S=>S.A4 s 36=some (.bytes [])/\Q (.int b) S
def oj(W:Addr->Prop)(w:Nat)(S:AH)(t:Addr)(I:List Int)(l:Prop):Prop:=
 (S.cls t=some 624)->(∃c,S.A4 t 42=some (.obj c)/\S.A1 c=some (I.map .int)/\¬W c)->(I.length=w)->l
def Bm(W:Addr->Prop)(w:Nat)(S:AH)(t:Addr)(c:List Int):Prop:=Ch (oj W w S t c)
section
variable{W:Addr->Prop}(zh:Bm W w σ t ze)
def Bm.cls:=zh _ λz Z Z=>z
def Bm.KJ:=zh _ λZ z Z=>z
def Bm.len:=zh _ λZ Z z=>z
end
def Bm.kp{W:Addr->Prop}{M:Pl->Addr->Prop}(h:Bm W w S t I)(k:KP M S E)(n:¬M .f t)(N:∀c,M .l c->W c):Bm W w E t I:=by
 refine BX h.KJ λc Q l H=>?_;exact(λZ B=>B (k.cls _ _ h.cls) ⟨c,by rw[k.A4 t (nn h.cls) n];exact Q,k.A1 _ _ l (λw=>H (N _ w)),H⟩ h.len)
def He (W:Addr->Prop)(w:Nat)(S:AH):AV->Option (List Int)->Prop
 | .none,none=>True
 | .obj t,some c=>Bm W w S t c
 | _,_=>False
def om(W:Addr->Prop)(w:Nat)(S:AH)(D f P:Addr)(m:Nat)(L:List (Int×Option (List Int)))(l:Prop):Prop:=
 ∀(d p:List Int) (V:List AV),S.A1 D=some (d.map .int)->S.A1 f=some (p.map .int)->S.A1 P=some V->d.length=m->p.length=m->V.length=m->
  (∀(j:Nat) e,L[j]?=some e->d[j]?=some e.1/\(∃v,V[j]?=some v/\He W w S v e.2)/\p[e.1.toNat]?=some (j:Int))->(∀x∈p,0<=x/\x<m)->l
def oo(W:Addr->Prop)(w:Nat)(I:AH)(d S v:Addr)(m:Nat)(L:List (Int×Option (List Int))):Prop:=Ch (om W w I d S v m L)
def oq(W:Addr->Prop)(w:Nat)(S:AH)(q d f v:Addr)(m:Nat)(L:List (Int×Option (List Int)))(l:Prop):Prop:=
 (S.cls q=some 596)->(S.A4 q 38=some (.obj d))->(S.A4 q 39=some (.obj f))->(S.A4 q 40=some (.obj v))->(S.A4 q 41=some (.int L.length))->(W d)->(W f)->(W v)->(d≠f)->(d≠v)->(f≠v)->(oo W w S d f v m L)->(∀e∈L,0<=e.1/\e.1<m)->l
def BD(W:Addr->Prop)(w:Nat)(I:AH)(q d S v:Addr)(m:Nat)(L:List (Int×Option (List Int))):Prop:=Ch (oq W w I q d S v m L)
section
variable{W:Addr->Prop}{w:Nat}{σ:AH}{q dl sl vl:Addr}{Bz:Nat}{L:List (Int×Option (List Int))}(zh:BD W w σ q dl sl vl Bz L)
def BD.cls:=zh _ λz Z Z Z Z Z Z Z Z Z Z Z Z=>z
def BD.Hf:=zh _ λZ z Z Z Z Z Z Z Z Z Z Z Z=>z
def BD.Hg:=zh _ λZ Z z Z Z Z Z Z Z Z Z Z Z=>z
def BD.Hh:=zh _ λZ Z Z z Z Z Z Z Z Z Z Z Z=>z
def BD.GA:=zh _ λZ Z Z Z z Z Z Z Z Z Z Z Z=>z
def BD.W1:=zh _ λZ Z Z Z Z z Z Z Z Z Z Z Z=>z
def BD.W2:=zh _ λZ Z Z Z Z Z z Z Z Z Z Z Z=>z
def BD.W3:=zh _ λZ Z Z Z Z Z Z z Z Z Z Z Z=>z
def BD.IS:=zh _ λZ Z Z Z Z Z Z Z z Z Z Z Z=>z
def BD.Hi:=zh _ λZ Z Z Z Z Z Z Z Z z Z Z Z=>z
def BD.Hj:=zh _ λZ Z Z Z Z Z Z Z Z Z z Z Z=>z
def BD.ex:=zh _ λZ Z Z Z Z Z Z Z Z Z Z z Z=>z
def BD.rg:=zh _ λZ Z Z Z Z Z Z Z Z Z Z Z z=>z
end
def He.mp{W Y:Addr->Prop}(h:He W w S v o)(f:∀t c,Bm W w S t c->Bm Y w E t c):He Y w E v o:=by
 cases v<;>cases o<;>first| exact h| exact f _ _ h
def He.kp{W:Addr->Prop}{M:Pl->Addr->Prop}(h:He W w S v o)(k:KP M S E)(n:∀t,S.cls t=some 624->¬M .f t)(N:∀c,M .l c->W c):He W w E v o:=by
 exact h.mp λZ Z h=>Bm.kp h k (n _ (Bm.cls h)) N
def BD.kp{W:Addr->Prop}{M:Pl->Addr->Prop}{L:List (Int×Option (List Int))}(h:BD W w I q D S V m L)(k:KP M I E)(n:∀t,I.cls t=some 624->¬M .f t)(N:∀c,M .l c->W c)(T:¬M .f q)(G:¬M .l D)(X:¬M .l S)(f:¬M .l V):BD W w E q D S V m L:=by
 haveI e:=k.A4 q (nn h.cls) T;refine h.ex _ λr P g H l K U C A p F=>?_;refine(λZ B=>B (k.cls _ _ h.cls) (by rw[e];exact h.Hf) (by rw[e];exact h.Hg) (by rw[e];exact h.Hh) (by rw[e];exact h.GA) h.W1 h.W2 h.W3 h.IS h.Hi h.Hj (λZ B=>B r P g (k.A1 _ _ H G) (k.A1 _ _ l X) (k.A1 _ _ K f) U C A (λj e q=>?_) F) h.rg)
 ·refine C9 (p j e q) λa A0 d=>?_;obtain ⟨v,b,c⟩:=A0;exact⟨a,⟨v,b,c.kp k n N⟩,d⟩
def E8 (q d S v:Addr):Pl->Addr->Prop
 | .f,a=>a=q
 | .l,a=>a=d\/a=S\/a=v
 | _,_=>False
def M8:List AV->PE->AH->Prop:=
 aO λq=>aI λn=>aN λQ S=>S.cls q=some 596/\1<=n/\n<=1000/\∀E d e v,KP (MF q) S E->S.fresh d->S.fresh e->S.fresh v->(∀(W:Addr->Prop) (w:Nat),W d->W e->W v->BD W w E q d e v n.toNat [])->Q .none E
def Yu(H:1<=n)(l:n<=1000)(h:∀E q d e v,KP M0 S E->S.fresh q->S.fresh d->S.fresh e->S.fresh v->(∀(W:Addr->Prop)(w:Nat),W d->W e->W v->BD W w E q d e v n.toNat [])->Q (.obj q) E):CN M8 596 [.int n] Q S:=by
 intro q f;have K:KP (λp a=>M0 p a\/S.fresh a) S (S.uN q 596):=KP.new f.1;refine⟨by exact A6 rfl,H,l,λE d e v k F A y V=>⟨rfl,h E q d e v ?_ f (K.live _ F) (K.live _ A) (K.live _ y) V⟩⟩;refine(K.tr k λp a w=>?_).drop;cases p<;>first| exact w.elim| (haveI w:a=q:=w;subst w;exact .inr f)
def ot(q:Addr)(n:Int)(Q:PE)(S:AH)(l:Prop):Prop:=
 ∀W w d e v m L,(BD W w S q d e v m L)->(m<=1000)->(0<=n)->(n<m)->(Q (.bool (decide (n∈L.map (·.1)))) S)->l
def ou(q:Addr)(n:Int)(Q:PE)(S:AH):Prop:=Ch (ot q n Q S)
def SU:List AV->PE->AH->Prop:=
 aO λq=>aI λn=>aN λQ S=>ou q n Q S
def ow(q:Addr)(n:Int)(Q:PE)(I:AH)(l:Prop):Prop:=
 ∀W w d S v m L,(BD W w I q d S v m L)->(m<=1000)->(0<=n)->(n<m)->((n∈L.map (·.1)->Q (.bool false) I))->((n∉L.map (·.1)->∀E,KP (E8 q d S v) I E->BD W w E q d S v m (L++[(n,none)])->Q (.bool true) E))->l
def ox(q:Addr)(n:Int)(Q:PE)(S:AH):Prop:=Ch (ow q n Q S)
def SV:List AV->PE->AH->Prop:=
 aO λq=>aI λn=>aN λQ S=>ox q n Q S
noncomputable def Gs (L:List (Int×Option (List Int)))(n:Int)(c:List Int):List (Int×Option (List Int)):=L.map λe=>if e.1=n then(n,some c) else e
def oy(q:Addr)(n:Int)(t:Addr)(Q:PE)(I:AH)(l:Prop):Prop:=
 ∀W w d S v m L c,(BD W w I q d S v m L)->(m<=1000)->(n∈L.map (·.1))->(Bm W w I t c)->(∀E,KP (E8 q d S v) I E->BD W w E q d S v m (Gs L n c)->Q .none E)->l
def oz(q:Addr)(n:Int)(t:Addr)(Q:PE)(S:AH):Prop:=Ch (oy q n t Q S)
def SW:List AV->PE->AH->Prop:=
 aO λq=>aI λn=>aO λt=>aN λQ S=>oz q n t Q S
def p7(q:Addr)(Q:PE)(I:AH)(l:Prop):Prop:=
 ∀W w d S v m L,(BD W w I q d S v m L)->(∀E,KP (E8 q d S v) I E->BD W w E q d S v m []->Q .none E)->l
def p8(q:Addr)(Q:PE)(S:AH):Prop:=Ch (p7 q Q S)
def SY:List AV->PE->AH->Prop:=
 aO λq=>aN λQ S=>p8 q Q S
def OV:List AV->PE->AH->Prop:=
 aO λt=>aO λc=>aN λQ S=>S.cls t=some 624/\Q .none (S.uF t 42 (.obj c))
noncomputable def OW (c:List Int)(s a:Int):List Int:=if s<2\/(c.length:Int)<=s then c else c.set s.toNat a
def p9(t:Addr)(s:Int)(a:Int)(Q:PE)(S:AH)(l:Prop):Prop:=
 ∀W w c,(Bm W w S t c)->(w<=1000)->((∀x,W x->S.A1 x≠none))->(∀E T,KP M0 S E->Bm W w E T (OW c s a)->Q (.obj T) E)->l
def pA(t:Addr)(s:Int)(a:Int)(Q:PE)(S:AH):Prop:=Ch (p9 t s a Q S)
def Sa:List AV->PE->AH->Prop:=
 aO λt=>aI λs=>aI λa=>aN λQ S=>pA t s a Q S
def Sb:Tb:=(50,CN OU 540)::(51,SS)::(53,CN M8 596)::(54,SU)::(59,CN OV 624)::OT
section
variable{I:Ag}
def pB:Vc I 3 0 Wu OU:=λa Q S h=>by
 apply Bh h;clear h;intro s _ h;apply EZ h;clear h;intro o _ h;apply O3 h;clear h;intro f _ h;apply DM h;clear h;intro h;refine⟨rfl,?_⟩;exists h.1,Bf true,h.1,Bf true;intro d hd;exists h.1,Bf true;exact h.2 d hd
def pC:Vc I 4 0 Wv SS:=λa Q S h=>by
 apply Xs h;clear h;intro s t b e h;refine⟨rfl,?_⟩;exists h.1;exact⟨rfl,λZ=>h.2,λw=>(CW w.symm).elim⟩
def pD:Vc I 2 0 X1 OV:=λa Q S h=>by
 apply KA h;clear h;intro t c h;refine⟨rfl,?_⟩;exists h.1,Bf true;exact h.2
def w_lt{n:Int}{m:Nat}(H:0<=n)(Q:n<m)(h:m<=1000):word n:=BC (A3 0x2c0227735940061ac0200040 [] [_] H) (AK 0x17dcd65001860130a008048fa04300441 [_] [_] Q h)
def OX{n:Int}{m k:Nat}(e:k=m)(h:n<m):n<k:=e▸h
def pG(L:List (Int×Option (List Int)))(d p:List Int)(m:Nat)(l:Prop):Prop:=
 (d.length=m)->(p.length=m)->(∀(j:Nat) e,L[j]?=some e->d[j]?=some e.1/\p[e.1.toNat]?=some (j:Int))->(∀x∈p,0<=x/\x<m)->l
def EM(L:List (Int×Option (List Int)))(d p:List Int)(m:Nat):Prop:=Ch (pG L d p m)
section
variable{L:List (Int×Option (List Int))}(zh:EM L ds ps Bz)
def EM.ld:=zh _ λz Z Z Z=>z
def EM.lp:=zh _ λZ z Z Z=>z
def EM.at_:=zh _ λZ Z z Z=>z
def EM.rg:=zh _ λZ Z Z z=>z
end
section
variable{L:List (Int×Option (List Int))}{ds ps:List Int}{Bz:Nat}(p:EM L ds ps Bz)
include p
def EM.Yv(h:n∈L.map (·.1)):∃(j:Nat) (e:_),L[j]?=some e/\e.1=n/\ps[n.toNat]?=some (j:Int):=by
 refine AJ (DT.1 h) λe f A=>?_;subst A;refine AW (List.getElem?_of_mem f) λj H=>?_;exact⟨j,e,H,rfl,(p.at_ j e H).2⟩
def EM.has{n:Int}{S:Int}(t:ps[n.toNat]?=some S):n∈L.map (·.1)↔S<L.length/\ds[S.toNat]?=some n:=by
 constructor
 ·intro h;refine C2 (p.Yv h) λj e H A c=>?_;subst A;cases BL (t.symm.trans c);exact⟨Int.ofNat_lt.2 (D6.1 H).1,(p.at_ j e H).1⟩
 ·intro h;haveI E:=(p.rg S (Bj t)).1;have H:S.toNat<L.length:=(Int.toNat_lt E).2 h.1;haveI a:=(p.at_ _ _ (Aw H)).1;rw[h.2] at a;refine(BL a).symm▸?_;exact HC (Fw H)
end
def pH:Vc I 2 1 Wx SU:=λc Q F h=>by
 apply Eb h;clear h;intro q n h;refine⟨rfl,?_⟩;refine h _ λW w y o U m L V T E R h=>?_;refine V.ex _ λd p r q1 B l a X Y A f=>?_;have P:EM L d p m:=(λZ D=>D a X (λj e w=>⟨(A j e w).1,(A j e w).2.2⟩) f);have N:=OX X R;haveI v:=JM E N;haveI it:=Lk E N;generalize p.getD n.toNat 0=sp at v it;haveI t:=f sp (Bj v);haveI S:=OX a t.2;haveI H:=P.has v;clear P Y A;exists V.Hg;refine(DX (w_lt E R T) B (DW (Dm E N)) it ?_:);exists V.GA;refine Ai (λg=>?_) λg=>?_
 ·exists V.Hf;refine(DX (w_lt t.1 t.2 T) q1 (DW (Dm t.1 S)) (Lk t.1 S) ?_:);have e:decide (d.getD sp.toNat 0=n)=decide (n∈L.map (·.1)):=by
   rw[ES,H,JM t.1 S];exact⟨λe=>⟨g,AO some e⟩,λe=>BL e.2⟩
  refine(?_:Q (.bool (decide (d.getD sp.toNat 0=n))) F);rw[e];exact h
 ·rw[C0 λw=>g (H.1 w).1] at h;exact h
def pJ{l:List Int}{i:Nat}{x:Int}(h:l[i]?=some x):(l.map AV.int)[i]?=some (.int x):=by rw[Bb,h];rfl
def Yw{A:Type}{j:Nat}{e:A}(h:([]:List A)[j]?=some e):False:=nO h List.getElem?_nil
def Yx{A:Type}{l:List A}{j:Nat}{e:A}(h:l[j]?=some e):j<l.length:=(D6.1 h).1
def KL{n:Nat}{j:Nat}(h:j<n):BF (j:Int) n=some j:=Dm (Dh j) (Int.ofNat_lt.2 h)
def Yy{j m:Nat}(h:j<m)(H:m<=1000):word (j:Int):=w_lt (Dh j) (Int.ofNat_lt.2 h) H
def pK (v:Addr):Pl->Addr->Prop
 | .l,a=>a=v
 | _,_=>False
def Yz{L:List (Int×Option (List Int))}{n:Int}{c:List Int}{i:Nat}{x:Int×Option (List Int)}(h:(Gs L n c)[i]?=some x):∃y,L[i]?=some y/\((y.1=n/\x=(n,some c))\/(y.1≠n/\x=y)):=by
 unfold Gs at h;rw[Bb] at h;refine AJ (BY.1 h) λy H A=>?_;subst A;refine⟨y,H,?_⟩;by_cases g:y.1=n
 ·exact .inl ⟨g,A6 g⟩
 ·exact .inr ⟨g,A5 g⟩
def pL:Vc I 3 0 Wz SW:=λargs Qa G h=>by
 apply Bh h;clear h;intro q _ h;apply BN h;clear h;intro nc _ h;apply Cu h;clear h;intro t h;refine⟨rfl,?_⟩;refine h _ λW w dl sl R O L c V S M T h=>?_;refine V.ex _ λd C o q1 F q3 f a l Q m=>?_;haveI P:EM L d C O:=(λZ D=>D f a (λj e w=>⟨(Q j e w).1,(Q j e w).2.2⟩) m);refine C2 (P.Yv M) λj e r A E=>?_;subst A;haveI v:=V.rg e (Bj r);refine AJ ((Q j e r).2.1) λv0 N Z=>?_;haveI X:=Yx N;exists V.Hh,V.Hg;refine(DX (w_lt v.1 v.2 S) F (DW (Dm v.1 (OX a v.2))) (pJ E) ?_:);exists q3,Yy (l▸X) S,Dh j,KL X;haveI k1:KP (pK R) G (G.uL R (o.set j (.obj t))):=KP.AX (.inl rfl);refine h _ (k1.mono λp aa w=>by cases p<;>first| exact w.elim| exact .inr (.inr w)) (λZ D=>D V.cls V.Hf V.Hg V.Hh (by unfold Gs;rw[Ak];exact V.GA) V.W1 V.W2 V.W3 V.IS V.Hi V.Hj (λZ D=>D d C (o.set j (.obj t)) (lo V.Hi q1) (lo V.Hj F) AY f a (List.length_set.trans l) (λi x Y=>?_) m) (λx Y=>?_))
 ·refine AJ (Yz Y) λy H A=>?_;obtain ⟨g,rfl⟩| ⟨g,rfl⟩:=A
  ·refine C9 (Q i y H) λn Z B=>?_;rw[g] at n B;cases Int.ofNat.inj (BL (B.symm.trans E));exact⟨n,⟨.obj t,List.getElem?_set_self X,T.kp k1 (λw=>w) λc w=>(w:c=R)▸V.W3⟩,B⟩
  ·refine C9 (Q i x H) λn A B=>?_;obtain ⟨v2,A0,U⟩:=A;exact⟨n,⟨v2,(List.getElem?_set_ne λw=>g (by cases w;rw[r] at H;cases H;rfl)).trans A0,U.kp k1 (λZ Z w=>w) λc w=>(w:c=R)▸V.W3⟩,B⟩
 ·refine AW (List.getElem?_of_mem Y) λi K=>?_;refine AJ (Yz K) λy H A=>?_;obtain ⟨g,rfl⟩| ⟨g,rfl⟩:=A
  ·exact v
  ·exact V.rg x (Bj H)
def pN:Vc I 1 0 X0 SY:=λA Q E h=>by
 apply Cu h;clear h;intro q h;refine⟨rfl,?_⟩;refine h _ λW w D S P m L V h=>?_;refine V.ex _ λd p c q1 v l a X Y t f=>?_;exists V.cls,Bf true;exact h _ (KP.BK (.inl rfl)) (λZ B=>B V.cls (fn rfl V.Hf) (fn rfl V.Hg) (fn rfl V.Hh) fe V.W1 V.W2 V.W3 V.IS V.Hi V.Hj (λZ B=>B d p c q1 v l a X Y (λj e w=>(Yw w).elim) f) (λe w=>(List.not_mem_nil w).elim))
end
section
variable{L:List (Int×Option (List Int))}{ds ps:List Int}{Bz:Nat}(p:EM L ds ps Bz)
include p
def EM.nd:(L.map (·.1)).Nodup:=by
 rw[List.nodup_iff_pairwise_ne,List.pairwise_iff_getElem];intro i j h H R;rw[Ak] at h H;rw[List.getElem_map,List.getElem_map];intro e;haveI c1:=(p.at_ i _ (Aw h)).2;rw[e,(p.at_ j _ (Aw H)).2] at c1;exact Nat.ne_of_gt R (Int.ofNat.inj (BL c1))
def EM.lt(r:∀e∈L,0<=e.1/\e.1<Bz){n:Int}(E:0<=n)(Q:n<Bz)(g:n∉L.map (·.1)):L.length<Bz:=by
 haveI:=YD (Bz+1) ((n::L.map (·.1)).map (· +1)) (by
  rw[List.nodup_iff_pairwise_ne,List.pairwise_map];exact(List.nodup_iff_pairwise_ne.1 (List.nodup_cons.2 ⟨g,p.nd⟩)).imp λh e=>h (A3 0x1a11004d404011202000880 [] [_,_] e)) (λi F=>by
  refine AJ (DT.1 F) λx H A=>?_;subst A;haveI H:0<=x/\x<Bz:=(Co.1 H).elim (λw=>w▸⟨E,Q⟩) λw=>(DT.1 w).elim λe f=>f.2▸r e f.1;clear p r E Q g F;exact A3 0x3985404000a0200098808002001cc2802012c0200041 [_] [_] H)
 rw[Ak,List.length_cons,Ak] at this;exact Nat.lt_of_succ_lt_succ (Nat.lt_succ_of_le this)
def EM.add{n:Int}(M:L.length<Bz)(H:0<=n)(Q:n<Bz)(g:n∉L.map (·.1))(r:∀e∈L,0<=e.1/\e.1<Bz):EM (L++[(n,none)]) (ds.set L.length n) (ps.set n.toNat L.length) Bz:=λZ B=>B
  (List.length_set.trans p.ld)
  (List.length_set.trans p.lp)
  (λj e h=>by
   rcases FI h with⟨W,h⟩| ⟨rfl,rfl⟩
   ·have R:e.1≠n:=λw=>g (w▸HC (Bj h));have t:=(r e (Bj h)).1;exact⟨(List.getElem?_set_ne (Nat.ne_of_gt W)).trans (p.at_ j e h).1,(List.getElem?_set_ne λw=>R (by rw[<-Hr t,<-w,Hr H])).trans (p.at_ j e h).2⟩
   ·exact⟨List.getElem?_set_self (p.ld▸M),List.getElem?_set_self (p.lp▸(Int.toNat_lt H).2 Q)⟩)
  (λx X=>(List.mem_or_eq_of_mem_set X).elim (p.rg x) λw=>w▸⟨Dh _,Int.ofNat_lt.2 M⟩)
end
section
variable{I:Ag}(S:AU I Sb)
include S
def pP:Vc I 2 0 Wy SV:=λargs Q E h=>by
 apply Eb h;clear h;intro q n h;refine⟨rfl,?_⟩;refine h _ λW w d f U m L V T H R F a=>?_;exists V.cls,BU S.m (by decide+kernel:Am 596 22=some 54),(S.g 54 rfl);refine λZ B=>B W w d f U m L V T H R (Ai F λg=>?_);haveI a:=a g;refine V.ex _ λD C l q1 A0 N c X Y v O=>?_;have P:EM L D C m:=(λZ B=>B c X (λj e w=>⟨(v j e w).1,(v j e w).2.2⟩) O);have M:=P.lt V.rg H R g;haveI A:=Yy M T;haveI p:=P.add M H R g V.rg;exists V.Hf,V.GA,q1,A,Dh _,DW (KL (c▸M));exists V.GA,V.Hg,lo V.IS.symm A0,w_lt H R T,H,DW (Dm H (OX X R));exists V.Hh,V.GA,lo V.Hj.symm (lo V.Hi.symm N),A,Dh _,KL (Y▸M);exists V.GA,trivial,V.cls,Bf true;have K:KP (E8 q d f U) E ((((E.uL d ((D.map AV.int).set L.length (.int n))).uL f ((C.map AV.int).set n.toNat (.int L.length))).uL U (l.set L.length .none)).uF q 41 (.int (L.length+1))):=
  (((KP.AX (.inl (.inl rfl))).trans (KP.AX (.inl (.inr (.inl rfl))))).trans (KP.AX (.inl (.inr (.inr rfl))))).trans (KP.BK (.inl rfl))
 refine a _ K (λZ B=>B V.cls (fn rfl V.Hf) (fn rfl V.Hg) (fn rfl V.Hh) (fe.trans (by rw[CE];rfl)) V.W1 V.W2 V.W3 V.IS V.Hi V.Hj (λZ B=>B (D.set L.length n) (C.set n.toNat L.length) (l.set L.length .none) (lo V.Hi (lo V.IS (AY.trans (AO some List.map_set.symm)))) (lo V.Hj (AY.trans (AO some List.map_set.symm))) AY p.ld p.lp (List.length_set.trans Y) (λj e r=>⟨(p.at_ j e r).1,?_,(p.at_ j e r).2⟩) p.rg) (λe o=>(Bq.1 o).elim (V.rg e) λw=>Az.1 w▸⟨H,R⟩));obtain ⟨G,r⟩| ⟨rfl,rfl⟩:=FI r
 ·rcases (v j e r).2.1 with⟨v2,x,y⟩
  exact⟨v2,(List.getElem?_set_ne (Nat.ne_of_gt G)).trans x,y.kp K (λt a w=>by rw[show t=q from w,V.cls] at a;cases a) λcb w=>w.elim (λw=>w▸V.W1) λw=>w.elim (λw=>w▸V.W2) λw=>w▸V.W3⟩
 ·exact⟨.none,List.getElem?_set_self (Y▸M),trivial⟩
theorem Sd{f:Nat}{v:AV}{K:Fl->AE->AH->Prop}{q:Addr}{n:Int}{S:AH}(C:S.cls q=some 596)(c:EU 596 f=true)(H:1<=n)(l:n<=1000)
  (h:∀E d,KP (MF q) S E->S.fresh d->E.A1 d=some (List.replicate n.toNat v)->E.A4 q f=some (.obj d)->(∀g x,Nat.beq g f=false->S.A4 q g=x->E.A4 q g=x)->K .next [some (.obj q),some (.int n)] E):
  N8 I (.A9 (.attr (.J 0) f) (.rep (.list (.cons (.k v) .nil)) (.J 1))) K [some (.obj q),some (.int n)] S:=by
 refine A8 (AN rfl) λA T=>?_;exists (AY:(S.uL A [v]).A1 A=_),Em (by decide) H,l;refine⟨v,rfl,λd F=>?_⟩;exists C,c;haveI k1:KP (λp a=>MF q p a\/S.fresh a) S (S.uL A [v]):=KP.AX (.inr T.2.1);exact h _ d ((k1.trans (KP.AX (.inr F.2.1))).trans (KP.BK (.inl (.inl rfl)))).drop (k1.live _ F) AY fe λg x w e=>fn w e
def pQ:Vc I 2 0 Ww M8:=λr Q C h=>by
 apply Eb h;clear h;intro q n h;refine⟨rfl,?_⟩;refine Cp h λH R l h=>?_;refine Sd S H (Bf true) R l λA0 d k1 T L A Z=>?_;refine Sd S (k1.cls _ _ H) (Bf true) R l λK g k2 F o m V=>?_;refine Sd S (k2.cls _ _ (k1.cls _ _ H)) (Bf true) R l λO v k3 f p D P=>?_;haveI k:=(k1.trans k2).trans k3;haveI t:∀{a b},¬MF q .l a\/b:=.inl λw=>w;haveI N:d≠g:=BQ F L;haveI E:d≠v:=BQ f (k2.A1 _ _ L λw=>w);haveI U:g≠v:=BQ f o;exists k.cls _ _ H,Bf true;refine h _ d g v (k.trans (KP.BK (.inl rfl))) T (k1.live _ F) ((k1.trans k2).live _ f) λW w M G c=>(λZ B=>B (k.cls _ _ H) (fn rfl (P _ _ rfl (V _ _ rfl A))) (fn rfl (P _ _ rfl m)) (fn rfl D) fe M G c N E U (λZ B=>B (List.replicate n.toNat 0) (List.replicate n.toNat 0) (List.replicate n.toNat .none) ((k3.A1 _ _ (k2.A1 _ _ L λw=>w) λw=>w).trans (AO some List.map_replicate.symm)) ((k3.A1 _ _ o λw=>w).trans (AO some List.map_replicate.symm)) p List.length_replicate List.length_replicate List.length_replicate (λj e w=>(Yw w).elim) (λx X=>?_)) (λe w=>(List.not_mem_nil w).elim));refine((List.mem_replicate.1 X).2).symm▸?_;exact⟨Int.le_refl _,Int.lt_of_lt_of_le R (Int.self_le_toNat n)⟩
def pR:Vc I 3 1 X3 Sa:=λA Q D h=>by
 apply RD h;clear h;intro t s a h;refine⟨rfl,?_⟩;refine h _ λW w c T K m h=>?_;refine BX T.KJ λE j t2 t3=>?_;have tl:=T.len;have r:room (c.map AV.int).length:=rm (by rw[tl];exact BE K (AN rfl));unfold OW at h;refine Ai (λg=>CT ?_) λg=>?_
 ·rw[A6 (.inl g)] at h;exact h D t KP.refl T
 exists j;refine .inl ⟨_,t2,r,?_⟩;refine Ai (λG=>?_) λG=>?_
 ·rw[Ak] at G;rw[A6 (.inr G)] at h;exact h D t KP.refl T
 rw[Ak] at G;rw[A5 (λw=>w.elim g G)] at h;exists j,t2,r;intro x H;have n:0<=s:=Em (by decide) (Int.not_lt.1 g);haveI F:s<c.length:=Int.not_le.1 G;exists (AY:(D.uL x (c.map .int)).A1 x=_),w_lt n (tl▸F) K,n,DW (Dm n F),(S.g 59 rfl);intro X f;haveI V:KP (λp a=>M0 p a\/D.fresh a) D ((D.uL x (c.map .int)).uL x ((c.map AV.int).set s.toNat (.int a))):=(KP.AX (.inl (.inr H))).trans (KP.AX (.inl (.inr H)));haveI l:=V.live _ f;exact⟨ce,rfl,h _ X ((V.trans (KP.new f.1)).trans (KP.BK (.inl (.inr l)))).drop (λZ B=>B ce ⟨x,fe,AY.trans (AO some List.map_set.symm),λq=>m x q H.2.1⟩ (List.length_set.trans tl))⟩
end
set_option genCtorIdx true in
inductive Mode| s(longest:Bool)(many:Int)| i
structure BR where
 best:Option (List Int)
 ids:List Int
noncomputable def Df:Mode->Addr
 | .s _ _=>773
 | .i=>801
def Se (W:Addr->Prop)(S:AH)(m:Addr):Option (List Int)->Prop
 | none=>S.A4 m 52=some .none
 | some b=>∃B,S.A4 m 52=some (.obj B)/\S.A1 B=some (b.map .int)/\¬W B/\2<=b.length/\b.length<=1000
def IT (W:Addr->Prop)(I:AH)(m:Addr):Mode->BR->Prop
 | .s l many,S=>I.A4 m 50=some (.int many)/\I.A4 m 51=some (.bool l)/\Se W I m S.best
 | .i,S=>(∃d,I.A4 m 21=some (.obj d)/\I.AL d=some (tt S.ids))/\S.ids.length<=60
def pS(W:Addr->Prop)(w:Nat)(I:AH)(m p C:Addr)(a:List Addr)(P:AM)(t:List Int)(b e:Int)(l Aj:Bool)(M:Mode)(S:BR)(o:Prop):Prop:=
 (I.cls m=some (Df M))->(I.A4 m 25=some (.obj p))->(I.A4 m 8=some (.obj C))->(BJ I p C a P)->(I.A4 m 43=some (.bytes t))->(I.A4 m 44=some (.int b))->(I.A4 m 45=some (.int e))->(I.A4 m 46=some (.bool l))->(I.A4 m 47=some (.bool Aj))->(I.A4 m 48=some (.int w))->(∃n,I.A4 m 49=some (.obj n)/\I.cls n=some 540/\I.A4 n 36=some (.bytes []))->(IT W I m M S)->(¬W C)->o
def Ba(W:Addr->Prop)(w:Nat)(I:AH)(M p C:Addr)(a:List Addr)(P:AM)(t:List Int)(b e:Int)(l Aj:Bool)(m:Mode)(S:BR):Prop:=Ch (pS W w I M p C a P t b e l Aj m S)
section
variable{W:Addr->Prop}(zh:Ba W w σ me p il as P t b e Ca Aj md S)
def Ba.cls:=zh _ λz Z Z Z Z Z Z Z Z Z Z Z Z=>z
def Ba.prog:=zh _ λZ z Z Z Z Z Z Z Z Z Z Z Z=>z
def Ba.AG:=zh _ λZ Z z Z Z Z Z Z Z Z Z Z Z=>z
def Ba.pv:=zh _ λZ Z Z z Z Z Z Z Z Z Z Z Z=>z
def Ba.text:=zh _ λZ Z Z Z z Z Z Z Z Z Z Z Z=>z
def Ba.FJ:=zh _ λZ Z Z Z Z z Z Z Z Z Z Z Z=>z
def Ba.en:=zh _ λZ Z Z Z Z Z z Z Z Z Z Z Z=>z
def Ba.Fg:=zh _ λZ Z Z Z Z Z Z z Z Z Z Z Z=>z
def Ba.GB:=zh _ λZ Z Z Z Z Z Z Z z Z Z Z Z=>z
def Ba.width:=zh _ λZ Z Z Z Z Z Z Z Z z Z Z Z=>z
def Ba.scan:=zh _ λZ Z Z Z Z Z Z Z Z Z z Z Z=>z
def Ba.GC:=zh _ λZ Z Z Z Z Z Z Z Z Z Z z Z=>z
def Ba.BA:=zh _ λZ Z Z Z Z Z Z Z Z Z Z Z z=>z
end
def BJ.Ei{p C:Addr}(h:BJ S p C A P)(L:a∈A):S.cls a=some 189:=by
 refine AW (List.getElem?_of_mem L) λj H=>?_;exact(h.inst j a _ H (Aw (h.len▸Yx H))).cls
def Ba.kp{W:Addr->Prop}{M:Pl->Addr->Prop}{m p C:Addr}{L Aj:Bool}(h:Ba W w I m p C A P t b e L Aj V S)(k:KP M I E)(n:∀a,M .f a->I.cls a=some 596)(N:∀c,M .l c->W c)(U:∀d,¬M .i d):Ba W w E m p C A P t b e L Aj V S:=by
 have f:¬M .f m:=λw=>by
  haveI:=n _ w;rw[h.cls] at this;cases V<;>cases this
 have q:=k.A4 m (nn h.cls) f;refine BX h.scan λr F o G=>?_;have j:¬M .f r:=λw=>by have:=n _ w;rw[o] at this;cases this
 have T:BJ E p C A P:=by
  refine h.pv.kp k (λw=>?_) (λw=>h.BA (N _ w)) λa Q w=>?_
  ·have:=n _ w;rw[h.pv.cls] at this;cases this
  ·haveI:=n _ w;rw[h.pv.Ei Q] at this;cases this
 refine(λZ A0=>A0 (k.cls _ _ h.cls) (by rw[q];exact h.prog) (by rw[q];exact h.AG) T (by rw[q];exact h.text) (by rw[q];exact h.FJ) (by rw[q];exact h.en) (by rw[q];exact h.Fg) (by rw[q];exact h.GB) (by rw[q];exact h.width) ⟨r,by rw[q];exact F,k.cls _ _ o,by rw[k.A4 r (nn o) j];exact G⟩ ?_ h.BA);have R:=h.GC;cases V with
 | s K many=>
  obtain ⟨a,b,c⟩:=R;refine⟨by rw[q];exact a,by rw[q];exact b,?_⟩;cases H:S.best with
  | none=>rw[H] at c;refine(?_:E.A4 m 52=_);rw[q];exact c
  | some x=>
   rw[H] at c;obtain ⟨B,c1,v,D,O⟩:=c;exact⟨B,by rw[q];exact c1,k.A1 _ _ v (λw=>D (N _ w)),D,O⟩
 | i=>
  obtain ⟨⟨d,a,c⟩,l⟩:=R;exact⟨⟨d,by rw[q];exact a,k.AL _ _ c (U d)⟩,l⟩
noncomputable def Z0:Mode->BR->Bool
 | .s _ _,S=>S.best.isSome
 | .i,_=>false
noncomputable def M9:Mode->BR->Bool
 | .s _ many,S=>decide (many=0)&&S.best.isSome
 | .i,_=>false
noncomputable def OY:Mode->BR->List Int->Bool
 | .s l _,S,c=>l&&(match S.best with| none=>false| some b=>decide (b.getD 0 0<c.getD 0 0))
 | .i,_,_=>false
def EN:Mode->BR->Int->List Int->Int->BR×Bool
 | .s l _,S,_,c,a=>if(l&&(match S.best with| none=>false| some b=>decide (b.getD 0 0=c.getD 0 0)&&decide (a<=b.getD 1 0)))=true then(S,false) else(⟨some (c.set 1 a),S.ids⟩,!l)
 | .i,S,arg,_,_=>(⟨S.best,DZ S.ids arg⟩,false)
noncomputable def JZ (l:Bool)(b:Int)(m:Mode)(S:BR)(a:Int):Bool:=(l||decide (a=b))&&!Z0 m S
noncomputable def OZ (P:AM)(t:List Int)(b e:Int):Bool:=decide (P.start=0)||(P.DE&&!decide (b=0))||(P.CO&&!decide (e=t.length))
def Sf:List AV->PE->AH->Prop:=
 aO λp=>aY λt=>aI λb=>aI λe=>aN λQ S=>∃C a P,BJ S p C a P/\room t.length/\Q (.bool (OZ P t b e)) S
def zg:List AV->PE->AH->Prop:=λZ Q S=>Q (.bool false) S
def KN:List AV->PE->AH->Prop:=
 aO λZ=>aN λQ S=>Q (.bool false) S
def Sg:List AV->PE->AH->Prop:=
 aO λZ=>aO λZ=>aN λQ S=>Q (.bool false) S
def Sh:List AV->PE->AH->Prop:=
 aO λs=>aN λQ S=>∃W b,Se W S s b/\Q (.bool b.isSome) S
def Si:List AV->PE->AH->Prop:=
 aO λs=>aN λQ S=>∃W b m,Se W S s b/\S.A4 s 50=some (.int m)/\Q (.bool (decide (m=0)&&b.isSome)) S
def pU(s:Addr)(t:Addr)(Q:PE)(I:AH)(n:Prop):Prop:=
 ∀W w l m S c,(IT W I s (.s l m) S)->(Bm W w I t c)->(2<=w)->(Q (.bool (OY (.s l m) S c)) I)->n
def pV(s:Addr)(t:Addr)(Q:PE)(S:AH):Prop:=Ch (pU s t Q S)
def Sj:List AV->PE->AH->Prop:=
 aO λs=>aO λt=>aN λQ S=>pV s t Q S
def IU (m:Addr):Pl->Addr->Prop
 | .f,a=>a=m
 | .i,_=>True
 | _,_=>False
def pW(s:Addr)(t:Addr)(a:Int)(Q:PE)(I:AH)(n:Prop):Prop:=
 ∀W w l m S c,(I.cls s=some 773)->(IT W I s (.s l m) S)->(Bm W w I t c)->(2<=w)->(w<=1000)->((∀x,W x->I.A1 x≠none))->(∀E,KP (IU s) I E->(∀f,f≠52->E.A4 s f=I.A4 s f)->IT W E s (.s l m) (EN (.s l m) S 0 c a).1->Q (.bool (EN (.s l m) S 0 c a).2) E)->n
def pX(s:Addr)(t:Addr)(a:Int)(Q:PE)(S:AH):Prop:=Ch (pW s t a Q S)
def Sk:List AV->PE->AH->Prop:=
 aO λs=>aO λZ=>aO λt=>aI λa=>aN λQ S=>pX s t a Q S
def pY(s:Addr)(i:Addr)(Q:PE)(I:AH)(l:Prop):Prop:=
 ∀W S R,(IT W I s .i S)->(Bs I i R)->(S.ids.length<60)->(∀E,KP (λp Z=>p= .i) I E->IT W E s .i (EN .i S R.arg [] 0).1->Q (.bool false) E)->l
def pZ(s:Addr)(i:Addr)(Q:PE)(S:AH):Prop:=Ch (pY s i Q S)
def Sl:List AV->PE->AH->Prop:=
 aO λs=>aO λi=>aO λZ=>aI λZ=>aN λQ S=>pZ s i Q S
def Gu:Tb:=(60,Sa)::(55,SV)::(56,SW)::(57,SY)::(61,Sf)::(63,KN)::(64,KN)::(65,Sg)::(66,Sh)::(67,Si)::(68,Sj)::(69,Sk)::(70,Sl)::Sb
section
variable{I:Ag}
def pe:Vc I 4 0 Qj Sf:=λA Q S h=>by
 apply Xs h;clear h;intro p t b e h;refine⟨rfl,?_⟩;refine Ke h λC w P V a h=>?_;unfold OZ at h;have R:(decide (P.start=0)||(P.DE&&!decide (b=0)))=false->AP I (Qj.drop 2) (BB Q) [some (.obj p),some (.bytes t),some (.int b),some (.int e)] S:=λg=>by
  rw[g] at h;haveI h:Q (.bool (P.CO&&!decide (e=t.length))) S:=h;exists V.CO;exact⟨λg=>⟨a,by rw[g] at h;exact h⟩,λg=>by rw[g] at h;exact h⟩
 exists V.start;refine Ai (λg=>?_) λg=>?_
 ·rw[Bg g] at h;exact h
 rw[C0 g] at R h;exists V.DE;cases H:P.DE with
 | true=>
  rw[H] at R h;refine CT (DL (λG=>?_) λG=>R (by rw[G];rfl));rw[C0 G] at h;exact h
 | false=>rw[H] at R;exact BW (BW (R rfl))
def Z1:Vc I 1 0 X4 KN:=λa Q S h=>by
 apply Cu h;clear h;intro p h;exact⟨rfl,h⟩
def pg(a:List AV)(Q:PE)(S:AH)(h:KN a Q S):a.length=1/\Dz I 0 X5 a Q S:=Z1 a Q S h
def ph:Vc I 2 0 X6 Sg:=λa Q S h=>by
 apply KA h;clear h;intro p q h;exact⟨rfl,h⟩
def pj:Vc I 1 0 X7 Sh:=λa Q S h=>by
 apply Cu h;clear h;intro s h;refine⟨rfl,?_⟩;refine B9 h λW b H h=>?_;cases b with
 | none=>exact pO_i H h
 | some b=>exact H.elim λB w=>pO_i w.1 h
def pn:Vc I 1 0 X8 Si:=λa Q S h=>by
 apply Cu h;clear h;intro s h;refine⟨rfl,?_⟩;refine Ke h λW b m H R h=>?_;exists R;refine⟨λg=>?_,λg=>by rw[show decide (m=0)=false from g] at h;exact h⟩;rw[show decide (m=0)=true from g] at h;cases b with
 | none=>exact pO_i H h
 | some b=>exact H.elim λB w=>pO_i w.1 h
def Ja{l:List Int}{n:Nat}(h:n<l.length):(l.map AV.int)[n]?=some (.int (l.getD n 0)):=by rw[Bb,getD_some h];rfl
def MB:word 0:=BC (by decide) (by decide)
def Z2:word 1:=BC (by decide) (by decide)
def I2{l:List Int}(h:2<=l.length):BF 0 (l.map AV.int).length=some 0:=DW (KL (j:=0) (Fv (by decide) h))
def Z3{l:List Int}(h:2<=l.length):BF 1 (l.map AV.int).length=some 1:=DW (KL (j:=1) (Fv (by decide) h))
def Oc{l:List Int}(h:2<=l.length):(l.map AV.int)[0]?=some (.int (l.getD 0 0)):=Ja (Fv (by decide) h)
def pq{l:List Int}(h:2<=l.length):(l.map AV.int)[1]?=some (.int (l.getD 1 0)):=Ja (Fv (by decide) h)
def q9:Vc I 2 0 XA Sj:=λa Q D h=>by
 apply KA h;clear h;intro s t h;refine⟨rfl,?_⟩;refine h _ λW w l m S c y T H h=>?_;obtain ⟨m1,m2,m3⟩:=y;refine BX T.KJ λA j t2 Z=>?_;haveI H:=(T.len).symm▸H;unfold OY at h;dsimp only at h;exists m2;refine⟨λg=>?_,λg=>by rw[show l=false from g] at h;exact h⟩;rw[show l=true from g] at h;cases d:S.best with
 | none=>
  rw[d] at m3 h;exact pO_i m3 (BW h)
 | some b=>
  rw[d] at m3 h;obtain ⟨v,B,V,_,P,_⟩:=m3;refine pO_i B (CT ?_);exists B,MB,V,I2 P,Oc P,j,MB,t2,I2 H,Oc H;exact h
def qA:Vc I 4 0 XB Sl:=λA Q D h=>by
 apply RF h;clear h;intro s i t a h;refine⟨rfl,?_⟩;refine h _ λW S R y V H h=>?_;obtain ⟨⟨d,m1,m2⟩,m3⟩:=y;exists m1,V.arg,m2,(show room (tt S.ids).length by unfold room;rw[O9];exact BE m3 (AN rfl));exact h _ (KP.Gq (.inl rfl)) ⟨⟨d,m1,(A6 rfl).trans (AO some (RV ..))⟩,BE (Ll S.ids R.arg) H⟩
def qB:Vc I 4 0 Qk Sk:=λA Q D h=>by
 apply RF h;clear h;intro s i t a h;refine⟨rfl,?_⟩;refine h _ λW w l v S c C Y T H P m h=>?_;obtain ⟨m1,m2,m3⟩:=Y;refine BX T.KJ λF j t2 Z=>?_;rw[<-T.len] at H P;haveI R:(l&&(match S.best with| none=>false| some b=>decide (b.getD 0 0=c.getD 0 0)&&decide (a<=b.getD 1 0)))=false->AP I (Qk.drop 1) (BB Q) [some (.obj s),some (.obj i),some (.obj t),some (.int a)] D:=by
  intro U;unfold EN at h;dsimp only at h;haveI h:=(U)▸h;exists j,t2,rm (BE P (AN rfl));intro x X;exists C,Bf true;refine pO_i fe (pO_i (AY:(D.uL x (c.map .int)).A1 x=_) ?_);exists Z2,(by decide),Z3 H;refine pO_i (fn rfl m2) ?_;exact h _ (((KP.AX (.inl (.inr X))).trans (KP.BK (.inl (.inl rfl)))).trans (KP.AX (.inl (.inr X)))).drop (λf e=>A5 λw=>e w.2) ⟨fn rfl m1,fn rfl m2,⟨x,fe,AY.trans (AO some List.map_set.symm),λq=>m x q X.2.1,by rw[List.length_set];exact H,by rw[List.length_set];exact P⟩⟩
 exists m2;cases l with
 | false=>exact BW (BW (R rfl))
 | true=>
  refine CT ?_;cases d:S.best with
  | none=>
   rw[d] at m3 R;exact pO_i m3 (BW (R rfl))
  | some b=>
   haveI M:=m3;rw[d] at m3 R;obtain ⟨E,n,V,N,B,_⟩:=m3;refine pO_i n (CT ?_);exists n,MB,V,I2 B,Oc B,j,MB,t2,I2 H,Oc H;refine Ai (λg=>?_) λg=>BW (R (by rw[C0 g];rfl:(decide (b.getD 0 0=c.getD 0 0)&&decide (a<=b.getD 1 0))=false));exists n,Z2,V,Z3 B,pq B;refine Ai (λG=>?_) λG=>R (by rw[C0 G,Bool.and_false]:(decide (b.getD 0 0=c.getD 0 0)&&decide (a<=b.getD 1 0))=false);haveI y:EN (.s true v) S 0 c a=(S,false):=by
    unfold EN;dsimp only;refine(d).symm▸?_;exact A6 (by rw[Bg g,Bg G];rfl:(decide (b.getD 0 0=c.getD 0 0)&&decide (a<=b.getD 1 0))=true)
   haveI h:=(y)▸h;exact h D KP.refl (λZ Z=>rfl) ⟨m1,m2,M⟩
end
section
variable{I:Ag}(S:AU I Gu){W:Addr->Prop}{w:Nat}{σ:AH}{me p il:Addr}{as:List Addr}{P:AM}{t:List Int}{b e:Int}{Ca Aj:Bool}{md:Mode}{X:BR}
include S
def qC(V:Ba W w σ me p il as P t b e Ca Aj md X)(h:Q (.bool (Z0 md X)) σ):pO (Am (Df md) 27) λf=>I.spec f [.obj me] Q σ:=by
 cases md with
 | s l many=>
  rw[show Am (Df (.s l many)) 27=some 66 from(by decide+kernel:Am 773 27=some 66),IC,(S.g 66 rfl)];exact⟨W,X.best,V.GC.2.2,h⟩
 | i=>
  rw[show Am (Df .i) 27=some 63 from by decide+kernel,IC,(S.g 63 rfl)];exact h
def qD(V:Ba W w σ me p il as P t b e Ca Aj md X)(h:Q (.bool (M9 md X)) σ):pO (Am (Df md) 28) λf=>I.spec f [.obj me] Q σ:=by
 cases md with
 | s l many=>
  rw[show Am (Df (.s l many)) 28=some 67 from(by decide+kernel:Am 773 28=some 67),IC,(S.g 67 rfl)];exact⟨W,X.best,many,V.GC.2.2,V.GC.1,h⟩
 | i=>
  rw[show Am (Df .i) 28=some 64 from by decide+kernel,IC,(S.g 64 rfl)];exact h
def qE(V:Ba W w σ me p il as P t b e Ca Aj md X){A0:Addr}(T:Bm W w σ A0 c)(H:md≠.i->2<=w)(h:Q (.bool (OY md X c)) σ):pO (Am (Df md) 29) λf=>I.spec f [.obj me,.obj A0] Q σ:=by
 cases md with
 | s l many=>
  rw[show Am (Df (.s l many)) 29=some 68 from(by decide+kernel:Am 773 29=some 68),IC,(S.g 68 rfl)];exact(λZ B=>B W w l many X c V.GC T (H (by simp)) h)
 | i=>
  rw[show Am (Df .i) 29=some 65 from by decide+kernel,IC,(S.g 65 rfl)];exact h
def qG(V:Ba W w σ me p il as P t b e Ca Aj md X){A0 i:Addr}(T:Bm W w σ A0 c)(C:Bs σ i R)(K:md≠.i->2<=w)(Y:w<=1000)(g:∀x,W x->σ.A1 x≠none)(F:X.ids.length<60)(h:∀E,KP (IU me) σ E->Ba W w E me p il as P t b e Ca Aj md (EN md X R.arg c a).1->Q (.bool (EN md X R.arg c a).2) E):pO (Am (Df md) 30) λf=>I.spec f [.obj me,.obj i,.obj A0,.int a] Q σ:=by
 refine BX V.scan λm D o j=>?_;have N:p≠me:=λq=>by have:=V.pv.cls;rw[q,V.cls] at this;cases md<;>cases this
 have r:m≠me:=λq=>by rw[q,V.cls] at o;cases md<;>cases o
 have n:me∉as:=λL=>by haveI:=V.pv.Ei L;rw[V.cls] at this;cases md<;>cases this
 cases md with
 | s l many=>
  rw[show Am (Df (.s l many)) 30=some 69 from(by decide+kernel:Am 773 30=some 69),IC,(S.g 69 rfl)];refine(λZ B=>B W w l many X c V.cls V.GC T (K (by simp)) Y g (λE k H U=>?_));refine h E k (λZ B=>B (k.cls _ _ V.cls) (by rw[H _ (by decide)];exact V.prog) (by rw[H _ (by decide)];exact V.AG) ?_ (by rw[H _ (by decide)];exact V.text) (by rw[H _ (by decide)];exact V.FJ) (by rw[H _ (by decide)];exact V.en) (by rw[H _ (by decide)];exact V.Fg) (by rw[H _ (by decide)];exact V.GB) (by rw[H _ (by decide)];exact V.width) ⟨m,by rw[H _ (by decide)];exact D,k.cls _ _ o,by rw[k.A4 m (nn o) r];exact j⟩ U V.BA);exact V.pv.kp k N (λw=>w) λa L w=>n (by rw[<-(w:a=me)];exact L)
 | i=>
  rw[show Am (Df .i) 30=some 70 from by decide+kernel,IC,(S.g 70 rfl)];refine(λZ B=>B W X R V.GC C F (λE k U=>?_));haveI q:=k.A4 me (nn V.cls) (by intro w;cases w);refine h E (k.mono λp a w=>by subst w;trivial) (λZ B=>B (k.cls _ _ V.cls) (by rw[q];exact V.prog) (by rw[q];exact V.AG) (V.pv.kp k (by intro w;cases w) (by intro w;cases w) (λZ Z=>by intro w;cases w)) (by rw[q];exact V.text) (by rw[q];exact V.FJ) (by rw[q];exact V.en) (by rw[q];exact V.Fg) (by rw[q];exact V.GB) (by rw[q];exact V.width) ⟨m,by rw[q];exact D,k.cls _ _ o,by rw[k.A4 m (nn o) (by intro w;cases w)];exact j⟩ U V.BA)
omit S in
theorem Hk(m:Mode):Am (Df m) 31=some 71/\Am (Df m) 32=some 72/\Am (Df m) 33=some 73/\Am (Df m) 34=some 74/\Am (Df m) 35=some 75/\Am (Df m) 36=some 76:=by
 cases m
 ·exact(by decide+kernel:Am 773 31=some 71/\Am 773 32=some 72/\Am 773 33=some 73/\Am 773 34=some 74/\Am 773 35=some 75/\Am 773 36=some 76)
 ·exact(by decide+kernel:Am 801 31=some 71/\Am 801 32=some 72/\Am 801 33=some 73/\Am 801 34=some 74/\Am 801 35=some 75/\Am 801 36=some 76)
end
def qH(s:Addr)(a:Int)(Q:PE)(S:AH)(n:Prop):Prop:=
 ∀W w p C A P t b e l Aj m X,(Ba W w S s p C A P t b e l Aj m X)->(Q (.bool (JZ l b m X a)) S)->n
def qI(s:Addr)(a:Int)(Q:PE)(S:AH):Prop:=Ch (qH s a Q S)
def Sm:List AV->PE->AH->Prop:=
 aO λs=>aI λa=>aN λQ S=>qI s a Q S
def qJ(s:Addr)(a:Int)(Q:PE)(S:AH)(n:Prop):Prop:=
 ∀W w p C A P t b e l Aj m X,(Ba W w S s p C A P t b e l Aj m X)->(Q (.int (if JZ l b m X a=true then a else-1)) S)->n
def qK(s:Addr)(a:Int)(Q:PE)(S:AH):Prop:=Ch (qJ s a Q S)
def Sn:List AV->PE->AH->Prop:=
 aO λs=>aI λa=>aN λQ S=>qK s a Q S
noncomputable def Od (w:Nat)(a:Int):List Int:=(List.replicate w (-1)).set 0 a
def qL(s:Addr)(a:Int)(Q:PE)(S:AH)(n:Prop):Prop:=
 ∀W w p C A P t b e l Aj m X,(Ba W w S s p C A P t b e l Aj m X)->(1<=w)->(w<=1000)->((∀x,W x->S.A1 x≠none))->(∀E T,KP M0 S E->Bm W w E T (Od w a)->Q (.obj T) E)->n
def qM(s:Addr)(a:Int)(Q:PE)(S:AH):Prop:=Ch (qL s a Q S)
def So:List AV->PE->AH->Prop:=
 aO λs=>aI λa=>aN λQ S=>qM s a Q S
def Jb:Tb:=(71,Sm)::(72,Sn)::(73,So)::Gu
section
variable{I:Ag}(S:AU I Gu)
include S
def qN:Vc I 2 0 XC Sm:=λA Q D h=>by
 apply Eb h;clear h;intro s a h;refine⟨rfl,?_⟩;refine h _ λW w p C B P t b e l Aj m X V h=>?_;unfold JZ at h;have T:(l||decide (a=b))=true->pO (D.cls s) λc=>pO (I.Ar c 27) λf=>I.spec f [.obj s] (λx D=>pO x.bool? λc=>Q (.bool !c) D) D:=λg=>pO_i V.cls (O1 S.m (qC S V (by rw[g] at h;exact h)));exists V.Fg;refine⟨λg=>CT (T (by rw[show l=true from g];rfl)),λg=>?_⟩;exists V.FJ;refine Ai (λG=>T (by rw[Bg G,Bool.or_true])) λG=>?_;rw[show l=false from g,C0 G] at h;exact h
def qO:Vc I 2 1 XE So:=λA Q D h=>by
 apply Eb h;clear h;intro s a h;refine⟨rfl,?_⟩;refine h _ λW w p C E P t b e L Aj m X V H l j h=>?_;refine A8 (AN rfl) λx Y=>?_;exists V.width,(AY:(D.uL x [.int (-1)]).A1 x=_),Dh w,Int.ofNat_le.2 l;refine⟨_,rfl,λy O=>?_⟩;have k1:KP (λp a=>M0 p a\/D.fresh a) D (D.uL x [.int (-1)]):=KP.AX (.inr Y.2.1);haveI g:=k1.live _ O;exists (AY:((D.uL x [.int (-1)]).uL y (List.replicate w (.int (-1)))).A1 y=_),MB,Int.le_refl 0,(KL (j:=0) (by rw[List.length_replicate];exact H:0<(List.replicate w (AV.int (-1))).length)),(S.g 59 rfl);intro T f;haveI k2:KP (λp a=>M0 p a\/D.fresh a) D (((D.uL x [.int (-1)]).uL y (List.replicate w (.int (-1)))).uL y ((List.replicate w (AV.int (-1))).set 0 (.int a))):=(k1.trans (KP.AX (.inl (.inr g)))).trans (KP.AX (.inl (.inr g)));haveI F:=k2.live _ f;exact⟨ce,rfl,h _ T ((k2.trans (KP.new f.1)).trans (KP.BK (.inl (.inr F)))).drop (λZ B=>B ce ⟨y,fe,AY.trans (by unfold Od;rw[List.map_set,List.map_replicate]),λq=>j y q g.2.1⟩ (List.length_set.trans List.length_replicate))⟩
end
section
variable{I:Ag}(S:AU I Jb)
include S
def qP:Vc I 2 0 XD Sn:=λc Q E h=>by
 apply Eb h;clear h;intro s a h;refine⟨rfl,?_⟩;refine h _ λW w p C A P t b e l Aj m X V h=>?_;refine BX V.scan λn D o j=>?_;exists V.cls,BU S.m (Hk m).1,(S.g 71 rfl);refine λZ B=>B W w p C A P t b e l Aj m X V (Nz (λg=>?_) λg=>?_)
 ·rw[A5 g] at h;exact h
 rw[A6 g] at h;exists V.Fg;refine Nz (λZ=>h) λZ=>?_;exists D,o,BU S.m (by decide+kernel:Am 540 21=some 51),V.text,V.en,(S.g 51 rfl);exact⟨j,h⟩
end
abbrev QL:=List (Int×Option (List Int))
noncomputable def Hm (P:AM)(H:Int->Bool)(a:Int)(c:List (Int×List Int)×QL):List (Int×List Int)×QL:=
 match c.1.getLast? with
 | none=>c
 | some (n,I)=>
  if n∈c.2.map (·.1) then(c.1.dropLast,c.2)
  else if(P.get n).op=6 then(c.1.dropLast,c.2++[(n,none)])
  else
   let GU:=if(P.get n).last=true then c.1.dropLast else c.1.dropLast++[(n+1,I)]
   if(P.get n).op=1\/(P.get n).op=4 then(GU,Gs (c.2++[(n,none)]) n I)
   else if(P.get n).op=2 then(GU++[((P.get n).out,OW I (P.get n).arg a)],c.2++[(n,none)])
   else if(P.get n).op=5 then(GU++[((P.get n).out,I)],c.2++[(n,none)])
   else if(P.get n).op=3/\H (P.get n).arg=true then(GU++[((P.get n).out,I)],c.2++[(n,none)])
   else(GU,c.2++[(n,none)])
def FL (P:AM)(H:Int->Bool)(a:Int)(h:Int)(I:List Int)(L:QL):QL:=(OF (Hm P H a) (λc=>c.1=[]) ([(h,I)],L)).2
def qQ{H:Int->Bool}{L l:QL}(e:Dd (Hm P H a) n ([(h,I)],L)=([],l)):FL P H a h I L=l:=by
 unfold FL;refine AO Prod.snd (YC (d:=λc=>c.1=[]) (λc C=>?_) e rfl);unfold Hm;haveI C:c.1=[]:=C;rw[C];rfl
def Ej(P:AM)(L:QL):Prop:=∀e∈L,e.2≠none->(P.get e.1).op=1\/(P.get e.1).op=4
abbrev En:=Int×Addr×List Int
noncomputable def E9 (E:List En):List AV:=E.map λe=>.AA [.int e.1,.obj e.2.1]
noncomputable def Dr (E:List En):List (Int×List Int):=E.map λe=>(e.1,e.2.2)
def Z4:Dr (E++[e])=Dr E++[(e.1,e.2.2)]:=CX
def IV(W:Addr->Prop)(w:Nat)(S:AH)(P:AM)(E:List En):Prop:=∀e∈E,Bm W w S e.2.1 e.2.2/\0<=e.1/\e.1<P.AG.length
def IV.kp{W:Addr->Prop}{M:Pl->Addr->Prop}(h:IV W w S P E)(k:KP M S F)(n:∀t,S.cls t=some 624->¬M .f t)(N:∀c,M .l c->W c):IV W w F P E:=λe H=>⟨(h e H).1.kp k (n _ (h e H).1.cls) N,(h e H).2⟩
def IV.app{W:Addr->Prop}{w:Nat}{S:AH}{P:AM}{E:List En}(h:IV W w S P E){e:En}(x:Bm W w S e.2.1 e.2.2/\0<=e.1/\e.1<P.AG.length):IV W w S P (E++[e]):=λy H=>by
 rcases Bq.1 H with w| w
 ·exact h y w
 ·haveI:y=e:=by simpa using w
  rw[this];exact x
def qR(s:Addr)(q:Addr)(h:Int)(a:Int)(T:Addr)(Q:PE)(S:AH)(n:Prop):Prop:=
 ∀W w p C A P t b e l Aj m X d f v L c,(Ba W w S s p C A P t b e l Aj m X)->(P.Ok)->(BD W w S q d f v P.AG.length L)->(Bm W w S T c)->(Ej P L)->(room t.length)->(0<=a)->(a<=t.length)->(w<=1000)->((∀x,W x->S.A1 x≠none))->(0<=h)->(h<P.AG.length)->(∀E,KP (E8 q d f v) S E->BD W w E q d f v P.AG.length (FL P (λx=>Gn x t a) a h c L)->Ej P (FL P (λx=>Gn x t a) a h c L)->Q .none E)->n
def qS(s:Addr)(q:Addr)(h:Int)(a:Int)(t:Addr)(Q:PE)(S:AH):Prop:=Ch (qR s q h a t Q S)
def Sp:List AV->PE->AH->Prop:=
 aO λs=>aO λq=>aI λh=>aI λa=>aO λt=>aN λQ S=>qS s q h a t Q S
def Sq:Tb:=(74,Sp)::Jb
def MC{M:Pl->Addr->Prop}(k:KP M S E)(h:S.A1 x≠none)(n:¬M .l x):E.A1 x≠none:=by
 cases e:S.A1 x with
 | none=>exact Ad e h
 | some l=>rw[k.A1 _ _ e n];simp
def Bm.weak{W Y:Addr->Prop}(h:Bm W w S t c)(k:∀x,Y x->W x):Bm Y w S t c:=by
 refine BX h.KJ λI a b d=>?_;exact(λZ B=>B h.cls ⟨I,a,b,λw=>d (k _ w)⟩ h.len)
def BD.weak{W Y:Addr->Prop}{L:QL}(h:BD W w I q D S V m L)(k:∀x,Y x->W x)(M:Y D)(A:Y S)(o:Y V):BD Y w I q D S V m L:=by
 refine h.ex _ λr p n q1 Q l f X y t g=>?_;refine(λZ B=>B h.cls h.Hf h.Hg h.Hh h.GA M A o h.IS h.Hi h.Hj (λZ B=>B r p n q1 Q l f X y (λj e H=>?_) g) h.rg);refine C9 (t j e H) λa E d=>?_;obtain ⟨v,b,c⟩:=E;refine⟨a,⟨v,b,?_⟩,d⟩;exact c.mp λZ Z c=>Bm.weak c k
def BD.len{W:Addr->Prop}{L:QL}(V:BD W w I q d S v m L):L.length<=m:=by
 refine V.ex _ λD p c q1 A j Q X Y t f=>?_;by_cases g:L.length<=m
 ·exact g
 ·refine C9 (t (L.length-1) (L[L.length-1]'(A3 0x48029080012202100482 [_,_] [] g)) (Aw (A3 0x48029080012202100482 [_,_] [] g))) λa Z Z=>?_;rw[EP (AK 0x8484010802a1040122041084c3 [_,_,_] [] Q g)] at a;cases a
set_option genInjectivity false in
set_option genSizeOf false in
structure Dg(Q:PE) where
 (W0:Addr->Prop) (w:Nat) (σ:AH) (s q d p il dl sl vl:Addr) (as:List Addr) (P:AM) (t:List Int) (b en:Int) (Ca Aj:Bool) (md:Mode) (X:BR) (h a:Int) (cp:List Int) (L:QL)
 V0:Ba W0 w σ s p il as P t b en Ca Aj md X
 K:P.Ok
 Q0:BD W0 w σ q dl sl vl P.AG.length L
 ht:room t.length
 ha:0<=a
 JY:a<=t.length
 hw:w<=1000
 qU:∀x,W0 x->σ.A1 x≠none
 hd:σ.fresh d
 hq:∀Aq,KP (E8 q dl sl vl) σ Aq->BD W0 w Aq q dl sl vl P.AG.length (FL P (λx=>Gn x t a) a h cp L)->Ej P (FL P (λx=>Gn x t a) a h cp L)->Q .none Aq
namespace Dg
variable{Q:PE}(x:Dg Q)
def W(y:Addr):Prop:=x.W0 y\/y=x.d
abbrev H (y:Int):Bool:=Gn y x.t x.a
noncomputable abbrev Lc (X p w:Option AV):AE:=[some (.obj x.s),some (.obj x.q),some (.int x.h),some (.int x.a),X,some (.obj x.d),p,w]
abbrev M:Pl->Addr->Prop:=λp a=>E8 x.q x.dl x.sl x.vl p a\/x.σ.fresh a
def E2(E:List En)(L:QL)(t:AH)(l:Prop):Prop:=
 (KP x.M x.σ t)->(BD x.W x.w t x.q x.dl x.sl x.vl x.P.AG.length L)->(Ej x.P L)->(t.A1 x.d=some (E9 E))->(IV x.W x.w t x.P E)->l
def St(E:List En)(L:QL)(t:AH):Prop:=Ch (x.E2 E L t)
section
variable{x}(zh:x.St E Lq A7)
def St.kp:=zh _ λz Z Z Z Z=>z
def St.S:=zh _ λZ z Z Z Z=>z
def St.O:=zh _ λZ Z z Z Z=>z
def St.DF:=zh _ λZ Z Z z Z=>z
def St.hE:=zh _ λZ Z Z Z z=>z
end
abbrev it (k:Nat):=Dd (Hm x.P x.H x.a) k ([(x.h,x.cp)],x.L)
def JF(n:Nat)(l:AE)(t:AH)(m:Prop):Prop:=
 ∀E L X p w k,(l=x.Lc X p w)->(x.it k=(Dr E,L))->(x.St E L t)->(n=E.length+3*(x.P.AG.length-L.length))->(n<=100)->m
def A0(n:Nat)(L:AE)(t:AH):Prop:=Ch (x.JF n L t)
def Md:Pl->Addr->Prop
 | .l,a=>a=x.d
 | _,_=>False
variable{x}{E:List En}{Lq:QL}{A7 CH:AH}{n k:Nat}{x4 x6 x7:Option AV}{t:Addr}{c:List Int}
def nd(h:x.σ.A1 y=some l):y≠x.d:=λe=>by exact nO h (e▸x.hd.2.1)
def Es:x.dl≠x.d/\x.sl≠x.d/\x.vl≠x.d:=x.Q0.ex _ λZ Z Z q1 Q j Z Z Z Z Z=>⟨nd q1,nd Q,nd j⟩
def St.put(s:x.St E Lq A7)(h:IV x.W x.w A7 x.P E')(e:E9 E'=l):x.St E' Lq (A7.uL x.d l):=
 have kd:KP x.Md A7 (A7.uL x.d l):=KP.AX (.inl rfl)
 (λZ B=>B (s.kp.trans (KP.AX (.inl (.inr x.hd)))) (s.S.kp kd (λZ Z w=>w) (λZ w=>.inr w) (λw=>w) Es.1 Es.2.1 Es.2.2) s.O (by rw[e];exact AY) (h.kp kd (λZ Z w=>w) (λZ w=>.inr w)))
def Sr(h:Bm x.W x.w A7 t c):Bm x.W x.w (A7.uL x.d l) t c:=h.kp (M:=x.Md) (KP.AX (.inl rfl)) (λw=>w) (λZ w=>.inr w)
def St.push(s:x.St E Lq A7){e:En}(h:Bm x.W x.w A7 e.2.1 e.2.2/\0<=e.1/\e.1<x.P.AG.length):x.St (E++[e]) Lq (A7.uL x.d (E9 E++[.AA [.int e.1,.obj e.2.1]])):=s.put (s.hE.app h) (by simp[E9])
def St.Ao(s:x.St E Lq A7)(k:KP M0 A7 CH):x.St E Lq CH:=(λZ B=>B (s.kp.trans (k.mono λZ Z w=>w.elim)) (s.S.kp k (λZ Z w=>w) (λZ w=>w.elim) (λw=>w) (λw=>w) (λw=>w) (λw=>w)) s.O (k.A1 _ _ s.DF (λw=>w)) (s.hE.kp k (λZ Z w=>w) (λZ w=>w.elim)))
def mw{c:Addr}(w:E8 x.q x.dl x.sl x.vl .l c):x.W0 c:=by
 rcases w with rfl| rfl| rfl
 ·exact x.Q0.W1
 ·exact x.Q0.W2
 ·exact x.Q0.W3
def Z5(h:Bm x.W x.w A7 t c)(k:KP (E8 x.q x.dl x.sl x.vl) A7 CH)(H:A7.cls x.q=some 596):Bm x.W x.w CH t c:=h.kp k (λw=>by have w:t=x.q:=w;have:=h.cls;rw[w,H] at this;cases this) λZ w=>.inl (mw w)
def St.given(s:x.St E Lq A7){L:QL}(k:KP (E8 x.q x.dl x.sl x.vl) A7 CH)(h:BD x.W x.w CH x.q x.dl x.sl x.vl x.P.AG.length L)(o:Ej x.P L):x.St E L CH:=
 (λZ B=>B (s.kp.trans (k.mono λZ Z w=>.inl w)) h o (k.A1 _ _ s.DF λw=>w.elim (λw=>Es.1 w.symm) λw=>w.elim (λw=>Es.2.1 w.symm) λw=>Es.2.2 w.symm) (λe H=>⟨Z5 (s.hE e H).1 k s.S.cls,(s.hE e H).2⟩))
def St.pk(s:x.St E Lq A7):Ba x.W0 x.w A7 x.s x.p x.il x.as x.P x.t x.b x.en x.Ca x.Aj x.md x.X:=
 x.V0.kp s.kp.drop (λy w=>by have w:y=x.q:=w;rw[w];exact x.Q0.cls) (λZ w=>mw w) (λZ w=>w)
def St.live(s:x.St E Lq A7):∀y,x.W y->A7.A1 y≠none:=λy H=>by
 refine s.S.ex _ λZ Z Z U n v Z Z Z Z Z=>?_;by_cases g:y=x.dl
 ·rw[g,U];simp
 ·by_cases G:y=x.sl
  ·rw[G,n];simp
  ·by_cases l:y=x.vl
   ·rw[l,v];simp
   ·obtain h| rfl:=H
    ·exact MC s.kp.drop (x.qU y h) (λw=>w.elim g λw=>w.elim G l)
    ·rw[s.DF];simp
def nx(s:x.St E Lq A7)(h:x.it k=(Dr E,Lq))(H:E.length+3*(x.P.AG.length-Lq.length)<n)(N:n<=100):∃m,m<n/\x.A0 m (x.Lc x4 x6 x7) A7:=⟨_,H,λZ B=>B E Lq _ _ _ k rfl h s rfl (AK 0x81904340cc910421005230a06648821080281904318504 [_,_,_,_] [] H N)⟩
end Dg
section
variable{I:Ag}(S:AU I Jb)
include S
def Z6{Q:PE}{x:Dg Q}{E:List En}{l:QL}{t:AH}{n k:Nat}{M:Int}{r o:Addr}{p:List Int}{K:Fl->AE->AH->Prop}(s:x.St E (l++[(M,none)]) t)(c:Bm x.W x.w t r p)(C:Bs t o (x.P.get M))(qV:0<=M)(qW:M<x.P.AG.length)
  (h:x.it k=(if(x.P.get M).op=1\/(x.P.get M).op=4 then(Dr E,Gs (l++[(M,none)]) M p) else if(x.P.get M).op=2 then(Dr E++[((x.P.get M).out,OW p (x.P.get M).arg x.a)],l++[(M,none)]) else if(x.P.get M).op=5 then(Dr E++[((x.P.get M).out,p)],l++[(M,none)])
   else if(x.P.get M).op=3/\x.H (x.P.get M).arg=true then(Dr E++[((x.P.get M).out,p)],l++[(M,none)]) else(Dr E,l++[(M,none)])))
  (H:E.length+1+3*(x.P.AG.length-(l.length+1))<n) (N:n<=100) (B:∀L t,(∃m,m<n/\x.A0 m L t)->K .next L t):
  AP I ((Bc Nv 1).drop 5) K (x.Lc (some (.obj r)) (some (.int M)) (some (.obj o))) t:=by
 haveI qX:=x.K.out M qV qW;haveI ll:(l++[(M,(none:Option (List Int)))]).length=l.length+1:=by simp
 haveI gl:(Gs (l++[(M,none)]) M p).length=l.length+1:=by unfold Gs;rw[Ak,CE];rfl
 have V:room (E9 E).length:=by unfold room E9;rw[Ak];exact AK 0x8f424020c0148c28199280804108501000281904318504 [_,_,_,_] [] H N
 have f:(x.P.get M).op=1\/(x.P.get M).op=4->AP I [.expr (.Ar (.J 1) 24 (.cons (.J 6) (.cons (.J 4) .nil)))] (Cs (AP I [] K) K) (x.Lc (some (.obj r)) (some (.int M)) (some (.obj o))) t:=λg=>by
  rw[A6 g] at h;exists s.S.cls,BU S.m (by decide+kernel:Am 596 24=some 56);refine sp_i (S.g 56 rfl) (λZ A0=>A0 x.W x.w x.dl x.sl x.vl x.P.AG.length _ p s.S (by haveI:=x.K.len;exact A3 0x11f408600a28000441 [_] [] this) (by simp) c (λSs F Q5=>A8 (.inl rfl) (B _ _ (Dg.nx (s.given F Q5 λea j U=>?_) h (by simp[Gs];exact A3 0x9185033250100821080291850332501008210a02000504 [_,_,_,_] [] H) N))));unfold Gs at j;refine AJ (DT.1 j) λy hy Br=>?_;subst Br;by_cases G:y.1=M
  ·rw[A6 G];exact g
  ·rw[A5 G] at U⊢;exact s.O y hy U
 have e:∀{T:AH} {Y:Addr} {O:List Int},x.St E (l++[(M,none)]) T->Bm x.W x.w T Y O->x.it k=(Dr E++[((x.P.get M).out,O)],l++[(M,none)])->∀{x4 x6 x7},K .next (x.Lc x4 x6 x7) (T.uL x.d (E9 E++[.AA [.int (x.P.get M).out,.obj Y]])):=λs' T' X=>by
  refine B _ _ (Dg.nx (s'.push (e:=((x.P.get M).out,_,_)) ⟨T',qX⟩) (by rw[X,Z4]) (by simp;exact A3 0x48c28199280804108501000291850332501008210a02000504 [_,_,_,_] [] H) N)
 have a:x.it k=(Dr E++[((x.P.get M).out,p)],l++[(M,none)])->∀{d},(∀L t,K .next L t->d .next L t)->AP I [.expr (.append (.J 5) (.AA (.cons (.attr (.J 7) 2) (.cons (.J 4) .nil))))] d (x.Lc (some (.obj r)) (some (.int M)) (some (.obj o))) t:=λX d hK=>by
  exists s.DF,C.out,AN rfl,s.DF,V,.inl rfl;exact hK _ _ (e s c X)
 exists C.op;refine Ai (λg=>CT (f (.inl g))) (λg=>?_);exists C.op;refine Ai (λG=>f (.inr G)) (λG=>?_);rw[A5 λw=>w.elim g G] at h;exists C.op;refine Ai (λA=>?_) (λA=>?_)
 ·rw[A6 A] at h;exists s.DF,C.out,c.cls,BU S.m (by decide+kernel:Am 624 26=some 60),C.arg;refine sp_i (S.g 60 rfl) (λZ A0=>A0 x.W x.w p c x.hw s.live (λSs t5 F T5=>?_));haveI P:=s.Ao F;exists AN rfl,P.DF,V,.inl rfl;exact e P T5 h
 ·rw[A5 A] at h;exists C.op;refine Ai (λR=>?_) (λR=>?_)
  ·rw[A6 R] at h;exact a h λL t w=>w
  ·rw[A5 R] at h;have W:¬((x.P.get M).op=3/\x.H (x.P.get M).arg=true)->K .next (x.Lc (some (.obj r)) (some (.int M)) (some (.obj o))) t:=λD=>by
    rw[A5 D] at h;exact B _ _ (Dg.nx s h (AK 0x1230a06648821080291850332501010210a020005480808110545 [_,_,_,_,_] [] H ll) N)
   exists C.op;refine Ai (λD=>?_) (λD=>BW (W λw=>D w.1));exists C.arg,s.pk.text;refine sp_i (S.g 3 rfl) ⟨x.ht,x.ha,x.JY,Cf (λv=>?_) (λv=>W λw=>v w.2)⟩;rw[A6 ⟨D,v⟩] at h;exact a h λL t w=>w
def qY{Q:PE}{x:Dg Q}{E:List En}{l:QL}{t:AH}{n k:Nat}{d x6 x7:Option AV}{K:Fl->AE->AH->Prop}(s:x.St E l t)(Y:x.it k=(Dr E,l))(T:n=E.length+3*(x.P.AG.length-l.length))(N:n<=100)(U:E≠[])
  (G:∀L t,(∃m,m<n/\x.A0 m L t)->K .next L t/\K .cont L t):AP I (Bc Nv 1) K (x.Lc d x6 x7) t:=by
 haveI M:=x.K.len;obtain ⟨z,c⟩:∃z,E.getLast?=some z:=⟨_,Ik U⟩;obtain ⟨zn,v,p⟩:=z;haveI C:=s.hE _ (List.mem_of_getLast? c);refine C9 C λO H R=>?_;have r:E.dropLast.length+1=E.length:=by rw[List.length_dropLast];haveI:=List.length_pos_iff.2 U;exact A3 0x1400a020484000a40100041 [_] [] this
 have h:x.it (k+1)=Hm x.P x.H x.a (Dr E,l):=by refine(?_:Dd _ _ _=_);rw[OE];refine(?_:Dd _ 1 (x.it k)=_);rw[Y];rfl
 have X:Dr E.dropLast=(Dr E).dropLast:=by unfold Dr;rw[List.map_dropLast]
 have y:(Dr E).getLast?=some (zn,p):=by unfold Dr;rw[List.getLast?_map,c];rfl
 unfold Hm at h;simp only[y,<-X] at h;have o:=s.put (E':=E.dropLast) (λe f=>s.hE e (List.dropLast_subset _ f)) rfl;rw[show E9 E.dropLast=(E9 E).dropLast from by unfold E9;rw[List.map_dropLast]] at o;haveI D:=Dg.Sr (l:=(E9 E).dropLast) O;exists s.DF,(by unfold room E9;rw[Ak];exact AK 0x23d090083005481992308820084281904308504 [_,_,_,_] [] T N:room (E9 E).length),(by unfold E9;rw[List.getLast?_map,c];rfl:(E9 E).getLast?=some (.AA [.int zn,.obj v])),o.S.cls,BU S.m (by decide+kernel:Am 596 23=some 55);haveI zi:=s.S.len;refine sp_i (S.g 55 rfl) (λZ zK=>zK x.W x.w x.dl x.sl x.vl x.P.AG.length l o.S (A3 0x11f408600a28000441 [_] [] M) H R (λF=>CT ?_) (λF Z7 k3 B=>BW ?_))
 ·rw[A6 F] at h;exact(G _ _ (Dg.nx o h (AK 0x48c2819922084200a9033244108481185440a02000545 [_,_,_,_,_] [] T r) N)).2
 rw[A5 F] at h;have j:=o.given k3 B λe f U=>by
  rcases Bq.1 f with w| w
  ·exact s.O e w U
  ·obtain rfl:=Az.1 w;exact Ad rfl U
 have A:=Dg.Z5 D k3 o.S.cls;have V:=j.S.len;rw[CE,List.length_singleton] at V;haveI P:=j.pk;refine BX (P.pv.at H R) λia r1 r2 r3=>?_;haveI a:word zn:=BC (A3 0x2c0227735940061ac0200040 [] [_] H) (AK 0x5f7359400618048a00016140100841 [_] [_] M R);exists P.AG;refine(DX a P.pv.A1 (Gk r3) (Gl r1) ?_:);exists r2.op;refine Ai (λW=>?_) (λW=>?_)
 ·rw[A6 W] at h;exact(G _ _ (Dg.nx j h (by simp;exact AK 0x1230a0664a02010421484000a9033244108401185010a02010504 [_,_,_,_] [] T V) N)).2
 rw[A5 W] at h;exists r2.last;refine Nz (λg=>?_) (λg=>?_)
 ·rw[A5 g] at h;haveI A0:=j.push (e:=(zn+1,v,p)) ⟨A,by simp;exact A3 0x2d010004002c0200040 [] [_] H,x.K.last zn H R (by simpa using g)⟩;exists j.DF,trivial,AN rfl,j.DF,(by unfold room E9;rw[Ak];exact CA 0x23d090083005481992408c220842819043085420a02000545 [_,_,_,_,_] [] T N r:room (E9 E.dropLast).length),.inl rfl;exact Z6 S A0 (Dg.Sr A) r2.uL H R (by rw[h,Z4]) (by simp;exact AK 0x48c2819928080410850102020484000a9033244108401185010a02010504 [_,_,_,_] [] T V) N λL t w=>(G L t w).1
 ·rw[A6 g] at h;exact Z6 S j A r2 H R h (CA 0x1230a0664a02010421404000a9033244108481185440a020005010a02010545 [_,_,_,_,_] [] T r V) N λL t w=>(G L t w).1
def qZ:Vc I 5 3 Nv Sp:=λargs Q D h=>by
 apply Bh h;clear h;intro s _ H;apply Bh H;clear H;intro q _ H;apply BN H;clear H;intro h _ H;apply BN H;clear H;intro a _ H;apply Cu H;clear H;intro T H;refine⟨rfl,?_⟩;refine H _ λW w pa il A0 P t b o Ca Aj md X y j Y L G A K V C qa ht O p hw N qb qc R=>?_;refine A8 (AN rfl) (A8 (AN rfl) λd hd=>?_);let x:Dg Q:=⟨W,w,D,s,q,d,pa,il,y,j,Y,A0,P,t,b,o,Ca,Aj,md,X,h,a,G,L,A,K,V,ht,O,p,hw,N,hd,R⟩
 have up:∀{t c},Bm W w D t c->Bm x.W w D t c:=λh=>by
  refine BX h.KJ λM a b n=>?_;exact(λZ B=>B h.cls ⟨M,a,b,λw=>w.elim n λe=>Dg.nd (x:=x) b e⟩ h.len)
 haveI m:BD x.W w D q y j Y P.AG.length L:=by
  refine V.ex _ λr ps vs q1 q2 q3 q4 q5 q6 q7 q8=>?_;refine(λZ B=>B V.cls V.Hf V.Hg V.Hh V.GA (.inl V.W1) (.inl V.W2) (.inl V.W3) V.IS V.Hi V.Hj (λZ B=>B r ps vs q1 q2 q3 q4 q5 q6 (λja e f=>?_) q8) V.rg);refine C9 (q7 ja e f) λa Br d=>?_;obtain ⟨v,b,c⟩:=Br;refine⟨a,⟨v,b,?_⟩,d⟩;exact c.mp (by assumption)
 haveI kd:KP x.Md D (D.uL d [.AA [.int h,.obj T]]):=KP.AX (.inl rfl);haveI s0:x.St [(h,T,G)] L (D.uL d [.AA [.int h,.obj T]]):=(λZ B=>B (KP.AX (.inl (.inr hd))) (m.kp kd (λZ Z w=>w) (λZ w=>.inr w) (λw=>w) (Dg.Es (x:=x)).1 (Dg.Es (x:=x)).2.1 (Dg.Es (x:=x)).2.2) qa AY (λe f=>by
  rcases Az.1 f with rfl
  exact⟨Dg.Sr (x:=x) (up C),qb,qc⟩))
 haveI hl:=K.len;haveI zj:=V.len;refine⟨x.A0,⟨_,λZ B=>B _ L _ _ _ 0 rfl rfl s0 rfl (by refine(?_:1+3*(P.AG.length-L.length)<=100);omega)⟩,?_⟩;intro nc L' A7 zz;refine zz _ λE l x4 x6 x7 k y1 U s hn n1=>?_;rcases y1 with rfl
 refine A8 (AN rfl) λe f=>?_;have F:=s.Ao (KP.AX (l:=[]) (.inr f.2.1));exists F.DF,AY,IB _;refine FE (λg=>qY S F U hn n1 (λw=>g (by rw[w];rfl)) λL A7 w=>⟨w,w⟩) (λg=>?_);haveI LM:E=[]:=List.map_eq_nil_iff.1 g;subst LM;haveI e:=qQ U;haveI R:=x.hq _ F.kp.drop;haveI R:=(e:FL x.P _ x.a x.h x.cp x.L=l)▸R;exact R (F.S.weak (λZ w=>.inl w) V.W1 V.W2 V.W3) F.O
end
def Ci (t:List Int)(a:Int)(R:Ap):Bool:=if R.op=1 then G7 R (t.getD a.toNat 0) else false
def Cv (t:List Int)(a x:Int):Bool:=Gn x t a
def Oe (P:AM)(m:Mode)(DP lt:Bool)(F:Ap->Bool)(H:Int->Bool)(a:Int)(k:BR->QL->BR×QL)(n:Int)(c:List Int)(S:BR)(L:QL):BR×QL:=
  if OY m S c=true then k S L
  else if(P.get n).op=4 then
   (if DP=true then(if(EN m S (P.get n).arg c a).2=true then((EN m S (P.get n).arg c a).1,L) else k (EN m S (P.get n).arg c a).1 L) else k S L)
  else if lt=true/\F (P.get n)=true then k S (FL P H (a+1) (P.get n).out c L)
  else k S L
noncomputable def Ek (P:AM)(m:Mode)(DP lt:Bool)(F:Ap->Bool)(H:Int->Bool)(a:Int):QL->BR->QL->BR×QL
 | [],S,L=>(S,L)
 | p::r,S,L=>match p.2 with| none=>Ek P m DP lt F H a r S L| some c=>Oe P m DP lt F H a (Ek P m DP lt F H a r) p.1 c S L
def qe{DP lt:Bool}{H:Int->Bool}{L:QL}:Ek P m DP lt F H a ((n,none)::r) S L=Ek P m DP lt F H a r S L:=rfl
def Z8{DP lt:Bool}{H:Int->Bool}{L:QL}:Ek P m DP lt F H a ((n,some c)::r) S L=Oe P m DP lt F H a (Ek P m DP lt F H a r) n c S L:=rfl
def MP (s q d S v:Addr):Pl->Addr->Prop
 | .f,a=>a=s\/a=q
 | .l,a=>a=d\/a=S\/a=v
 | .i,_=>True
 | _,_=>False
def qf{s q d S v:Addr}:∀p a,E8 q d S v p a->MP s q d S v p a:=λp a w=>by cases p<;>first| exact w| exact .inr w| trivial| exact w.elim
def qg{s q d S v:Addr}:∀p a,IU s p a->MP s q d S v p a:=λp a w=>by cases p<;>first| exact .inl w| trivial| exact w.elim
def qh(m:Mode)(S:BR)(A:Int)(c:List Int)(a:Int):(EN m S A c a).1.ids.length<=S.ids.length+1:=by
 cases m with
 | i=>exact Ll _ _
 | s l many=>
  unfold EN
  first| dsimp only[Cs,Kz,BB]| dsimp only| skip
  generalize (l&&_)=g;cases g<;>simp
def qi(s:Addr)(n:Addr)(q:Addr)(a:Int)(Q:PE)(S:AH)(o:Prop):Prop:=
 ∀W w p C A P t b e y Aj m X D T V N d f v L,(Ba W w S s p C A P t b e y Aj m X)->(P.Ok)->(BD W w S n D T V P.AG.length N)->(BD W w S q d f v P.AG.length L)->(Ej P N)->(Ej P L)->(n≠q)->((∀x,(x=d\/x=f\/x=v)->¬(x=D\/x=T\/x=V)))->(room t.length)->(0<=a)->(a<=t.length)->(e<=t.length)->(w<=1000)->((m≠.i->2<=w))->((∀x,W x->S.A1 x≠none))->(X.ids.length+N.length<=60)->(∀E F l,Ek P m (decide (a=e)||!Aj) (decide (a<e)) (Ci t a) (Cv t (a+1)) a N X L=(F,l)->KP (MP s q d f v) S E->Ba W w E s p C A P t b e y Aj m F->BD W w E n D T V P.AG.length N->BD W w E q d f v P.AG.length l->Ej P l->
    F.ids.length<=X.ids.length+N.length->Q .none E)->o
def qj(s:Addr)(n:Addr)(q:Addr)(a:Int)(Q:PE)(S:AH):Prop:=Ch (qi s n q a Q S)
def Su:List AV->PE->AH->Prop:=
 aO λs=>aO λn=>aO λq=>aI λa=>aN λQ S=>qj s n q a Q S
def Sw:Tb:=(75,Su)::Sq
set_option genInjectivity false in
set_option genSizeOf false in
structure IW(Q:PE) where
 (W:Addr->Prop) (w:Nat) (σ:AH) (s now q p il dn sn vn dl sl vl:Addr) (as:List Addr) (P:AM) (t:List Int) (b en:Int) (Ca Aj:Bool) (md:Mode) (X:BR) (a:Int) (N L:QL)
 K:P.Ok
 NO:Ej P N
 Sx:now≠q
 MG:∀x,(x=dl\/x=sl\/x=vl)->¬(x=dn\/x=sn\/x=vn)
 ht:room t.length
 ha:0<=a
 JY:a<=t.length
 Sy:en<=t.length
 hw:w<=1000
 Jc:md≠.i->2<=w
 hW:∀x,W x->σ.A1 x≠none
 qk:X.ids.length+N.length<=60
 hq:∀Aq X' L',Ek P md (decide (a=en)||!Aj) (decide (a<en)) (Ci t a) (Cv t (a+1)) a N X L=(X',L')->KP (MP s q dl sl vl) σ Aq->Ba W w Aq s p il as P t b en Ca Aj md X'->BD W w Aq now dn sn vn P.AG.length N->BD W w Aq q dl sl vl P.AG.length L'->Ej P L'->
    X'.ids.length<=X.ids.length+N.length->Q .none Aq
namespace IW
variable{Q:PE}(x:IW Q)
noncomputable abbrev Lc (X c p:Option AV):AE:=[some (.obj x.s),some (.obj x.now),some (.obj x.q),some (.int x.a),X,c,p]
def E2(X:BR)(L:QL)(t:AH)(l:Prop):Prop:=
 (KP (MP x.s x.q x.dl x.sl x.vl) x.σ t)->(Ba x.W x.w t x.s x.p x.il x.as x.P x.t x.b x.en x.Ca x.Aj x.md X)->(BD x.W x.w t x.now x.dn x.sn x.vn x.P.AG.length x.N)->(BD x.W x.w t x.q x.dl x.sl x.vl x.P.AG.length L)->(Ej x.P L)->l
def St(X:BR)(L:QL)(t:AH):Prop:=Ch (x.E2 X L t)
section
variable{x}(zh:x.St X' Lq A7)
def St.kp:=zh _ λz Z Z Z Z=>z
def St.P:=zh _ λZ z Z Z Z=>z
def St.N:=zh _ λZ Z z Z Z=>z
def St.S:=zh _ λZ Z Z z Z=>z
def St.O:=zh _ λZ Z Z Z z=>z
end
noncomputable abbrev DP:Bool:=decide (x.a=x.en)||!x.Aj
abbrev pk (l:QL)(X:BR)(L:QL):BR×QL:=Ek x.P x.md x.DP (decide (x.a<x.en)) (Ci x.t x.a) (Cv x.t (x.a+1)) x.a l X L
def JF(i:Nat)(l:AE)(t:AH)(m:Prop):Prop:=
 ∀M c p X L,(l=x.Lc M c p)->(x.St X L t)->(X.ids.length<=x.X.ids.length+i)->(x.pk x.N x.X x.L=x.pk (x.N.drop i) X L)->m
def A0(i:Nat)(L:AE)(t:AH):Prop:=Ch (x.JF i L t)
variable{x}{X' X2:BR}{Lq L2:QL}{A7 CH:AH}
def St.live(s:x.St X' Lq A7):∀y,x.W y->A7.A1 y≠none:=λy h=>by
 refine s.S.ex _ λZ Z Z U n v Z Z Z Z Z=>?_;by_cases g:y=x.dl
 ·rw[g,U];simp
 ·by_cases G:y=x.sl
  ·rw[G,n];simp
  ·by_cases l:y=x.vl
   ·rw[l,v];simp
   ·exact MC s.kp (x.hW y h) (λw=>w.elim g λw=>w.elim G l)
def St.taken(s:x.St X' Lq A7)(k:KP (IU x.s) A7 CH)(p:Ba x.W x.w CH x.s x.p x.il x.as x.P x.t x.b x.en x.Ca x.Aj x.md X2):x.St X2 Lq CH:=by
 have c:∀t,A7.cls t=some 624\/A7.cls t=some 596->t≠x.s:=λt H e=>by
  rw[e,s.P.cls] at H;cases h:x.md<;>rw[h] at H<;>rcases H with H| H<;>cases H
 exact(λZ B=>B (s.kp.trans (k.mono qg)) p (s.N.kp k (λt H=>c t (.inl H)) (λZ w=>w.elim) (c _ (.inr s.N.cls)) (λw=>w) (λw=>w) (λw=>w)) (s.S.kp k (λt H=>c t (.inl H)) (λZ w=>w.elim) (c _ (.inr s.S.cls)) (λw=>w) (λw=>w) (λw=>w)) s.O)
def St.spread(s:x.St X' Lq A7)(k:KP (E8 x.q x.dl x.sl x.vl) A7 CH)(q:BD x.W x.w CH x.q x.dl x.sl x.vl x.P.AG.length L2)(o:Ej x.P L2):x.St X' L2 CH:=by
 have m:∀a,E8 x.q x.dl x.sl x.vl .f a->A7.cls a=some 596:=λa w=>by have w:a=x.q:=w;rw[w];exact s.S.cls
 have M:∀c,E8 x.q x.dl x.sl x.vl .l c->x.W c:=λc w=>by
  rcases w with rfl| rfl| rfl
  ·exact s.S.W1
  ·exact s.S.W2
  ·exact s.S.W3
 exact(λZ B=>B (s.kp.trans (k.mono qf)) (s.P.kp k m M (λZ w=>w)) (s.N.kp k (λt h w=>by rw[m t w] at h;cases h) M (λw=>x.Sx w) (λw=>x.MG _ w (.inl rfl)) (λw=>x.MG _ w (.inr (.inl rfl))) (λw=>x.MG _ w (.inr (.inr rfl)))) q o)
end IW
def qm{W:Addr->Prop}(h:He W w S v none):v= .none:=by
 cases v<;>first| rfl| exact h.elim
def qn{W:Addr->Prop}(h:He W w S v (some c)):∃t,v= .obj t/\Bm W w S t c:=by
 cases v<;>first| exact⟨_,rfl,h⟩| exact h.elim
section
variable{I:Ag}(S:AU I Sq)
include S
def qo{Q:PE}{x:IW Q}{X:BR}{L:QL}{W:AH}{i:Nat}{M:Int}{c:List Int}{A0 l:Addr}{K:Fl->AE->AH->Prop}(s:x.St X L W)(m:X.ids.length<=x.X.ids.length+i)(N:i<x.N.length)(hz:(M,some c)∈x.N)(T:Bm x.W x.w W A0 c)(C:Bs W l (x.P.get M))(O:0<=M/\M<x.P.AG.length)
  (H:x.pk x.N x.X x.L=if(x.P.get M).op=4 then(if x.DP=true then(if(EN x.md X (x.P.get M).arg c x.a).2=true then((EN x.md X (x.P.get M).arg c x.a).1,L) else x.pk (x.N.drop (i+1)) (EN x.md X (x.P.get M).arg c x.a).1 L) else x.pk (x.N.drop (i+1)) X L)
   else if decide (x.a<x.en)=true/\Ci x.t x.a (x.P.get M)=true then x.pk (x.N.drop (i+1)) X (FL x.P (Cv x.t (x.a+1)) (x.a+1) (x.P.get M).out c L) else x.pk (x.N.drop (i+1)) X L)
  (D:∀j W,x.A0 (i+1) j W->K .next j W) (kr:∀j W,Q .none W->K (.ret .none) j W):AP I ((Bc Ql 0).drop 3) K (x.Lc (some (.int i)) (some (.obj A0)) (some (.obj l))) W:=by
 have d:AU I Gu:=S.dr 4;haveI f:=x.qk;haveI Sz:x.t.length<=1000000:=x.ht;have n:=x.ha;haveI qp:=x.JY;have F:x.pk x.N x.X x.L=x.pk (x.N.drop (i+1)) X L->K .next (x.Lc (some (.int i)) (some (.obj A0)) (some (.obj l))) W:=λh=>D _ _ (λZ B=>B _ _ _ X L rfl s (A3 0x842020104210050810421004c3 [_,_,_] [] m) h)
 exists C.op;refine Ai (λY=>?_) (λY=>?_)
 ·rw[A6 Y] at H;have v:x.DP=true->B3 I (.Ar (.J 0) 30 (.cons (.J 6) (.cons (.J 5) (.cons (.J 3) .nil)))) (λva E=>pO va.bool? λt=>(t=true->AP I [.retN] (Cs (AP I [] (Cs (AP I [] K) K)) (Cs (AP I [] K) K)) (x.Lc (some (.int i)) (some (.obj A0)) (some (.obj l))) E)/\(t=false->AP I [] (Cs (AP I [] (Cs (AP I [] K) K)) (Cs (AP I [] K) K)) (x.Lc (some (.int i)) (some (.obj A0)) (some (.obj l))) E))
    (x.Lc (some (.int i)) (some (.obj A0)) (some (.obj l))) W:=λg=>by
   rw[A6 g] at H;have e:=qh x.md X (x.P.get M).arg c x.a;exists s.P.cls;refine(O1 d.m ?_:);refine qG d s.P T C x.Jc x.hw s.live (CA 0x4878218028408210802918441407821a06108504 [_,_,_,_] [] m N f) λSs A p=>?_;have P:=s.taken A p;refine Cf (λG=>?_) (λG=>?_)
   ·rw[A6 G] at H;exact kr _ _ (x.hq _ _ _ H P.kp P.P P.N P.S P.O (CA 0x2102084200a104084230a441205080806100545 [_,_,_,_,_] [] m N e))
   ·rw[A5 G] at H;exact D _ _ (λZ B=>B _ _ _ _ L rfl P (AK 0x842020104210050810421185080806100504 [_,_,_,_] [] m e) H)
  exists s.P.en;refine Ai (λg=>CT (v (by simp[g]))) (λg=>?_);exists s.P.GB;cases G:x.Aj with
  | false=>exact CT (v (by simp[G]))
  | true=>exact BW (BW (F (by rw[H,A5 (by simp[IW.DP,g,G])])))
 ·rw[A5 Y] at H;exists s.P.en;refine Ai (λg=>?_) (λg=>BW (F (by rw[H,A5 λw=>g (Cb w.1)])));have g:x.a<x.en:=g;have U:=x.Sy;have w1:word x.a:=BC (A3 0x2c0227735940061ac0200040 [] [_] n) (AK 0x5f7359400618048f424020c015940100841 [_] [_] Sz qp);have gt:=JM (t:=x.t) n (AK 0x30a00804c088025940108881 [_] [_,_] (by assumption) U);exists s.P.text,w1,x.ht,n,gt;have o:Ci x.t x.a (x.P.get M)=G7 (x.P.get M) (x.t.getD x.a.toNat 0):=by unfold Ci;rw[A6 ((x.NO _ hz (Option.some_ne_none _)).resolve_right Y)]
  refine sp_i (d.g 17 rfl) ⟨_,C,Cf (λG=>?_) (λG=>F (by rw[H,o,A5 λw=>G w.2]))⟩;rw[o,A6 ⟨Bg g,G⟩] at H;exists s.P.cls,BU d.m (Hk x.md).2.2.2.1,C.out,trivial;haveI V:=x.K.out M O.1 O.2;haveI r:0<=x.a+1:=A3 0x2d010004002c0200040 [] [_] n;haveI a:x.a+1<=x.t.length:=AK 0x165005010004c088025940108881 [_] [_,_] (by assumption) U;refine sp_i (S.g 74 rfl) (λZ B=>B _ _ _ _ _ _ _ _ _ _ _ _ _ _ _ _ L c s.P x.K s.S T s.O x.ht r a x.hw s.live V.1 V.2 (λSs A y R=>A8 (.inl rfl) ?_));exact D _ _ (λZ B=>B _ _ _ X _ rfl (s.spread A y R) (A3 0x842020104210050810421004c3 [_,_,_] [] m) H)
def qq:Vc I 4 3 Ql Su:=λargs Q A0 h=>by
 apply RF h;clear h;intro s now q aa hh;refine⟨rfl,?_⟩;refine hh _ λW w pa il as P ta b en Ca Aj md X dn sn vn N dl sl vl L Va K n f O o Sx MG ht ha JY Sy hw V hW Y U=>?_;haveI e:AU I Gu:=S.dr 4;let x:IW Q:=⟨W,w,A0,s,now,q,pa,il,dn,sn,vn,dl,sl,vl,as,P,ta,b,en,Ca,Aj,md,X,aa,N,L,K,O,Sx,MG,ht,ha,JY,Sy,hw,V,hW,Y,U⟩
 haveI s0:x.St X L A0:=(λZ B=>B KP.refl Va n f o);haveI hl:=x.K.len;haveI qr:N.length<=x.P.AG.length:=n.len;exists n.GA,ke _ _;refine DY x.A0 (λZ B=>B _ _ _ X L rfl s0 (Nat.le_refl _) rfl) (λZ Z Z Z=>BC (Ae 0x2ca0093b9aca0030c41 [_] []) (A3 0x5f7359400619401407821a00108482 [_,_] [] Y)) ?_ ?_
 ·intro i v j y KK F a p kn kc kb kr;refine a _ λx4 x5 x6 G R y2 s m H=>?_;rcases y2 with rfl
  have F:i<N.length:=by simpa using F
  haveI p:v= .int i:=by
   rw[Bb,List.getElem?_range (by exact F)] at p;exact(BL p).symm
  subst p;obtain ⟨z,d⟩:∃z,N[i]?=some z:=⟨_,Aw F⟩;rcases z with⟨zn,zv⟩
  have C:=s.N.rg _ (Bj d);refine s.N.ex _ λr ps vs q1 q2 q3 q4 q5 q6 t q8=>?_;haveI t:=t i _ d;refine C9 t λa1 A a4=>?_;obtain ⟨v,a2,D⟩:=A;have M:∀{l:List AV},l.length=x.P.AG.length->BF (i:Int) l.length=some i:=λea=>by rw[Dm (by exact Ae 0x5940100041 [_] []) (by exact CA 0x614212802818441488200a86108504 [_,_,_,_] [] qr F ea)];simp
  have E:word (i:Int):=BC (Ae 0x2ca0093b9aca0030c41 [_] []) (AK 0xbee6b2800c3280280f043408210a441004c3 [_,_,_] [] Y F);refine⟨_,rfl,?_⟩;exists s.N.Hh,E,q3,M q6,a2;cases zv with
  | none=>
   cases qm D;exact CT (CT (kc _ _ (λZ B=>B _ _ _ G R rfl s (by exact A3 0x842020104210050810421004c3 [_,_,_] [] m) (H.trans (by rw[show x.N.drop i=(zn,none)::x.N.drop (i+1) from F9 d,IW.pk,qe])))))
  | some c=>
   refine AJ (qn D) λth A T=>?_;subst A;replace H:x.pk x.N x.X x.L=_:=H.trans (by rw[show x.N.drop i=(zn,some c)::x.N.drop (i+1) from F9 d,IW.pk,Z8,Oe]);refine BW ?_;exists s.P.cls;refine(O1 e.m ?_:);refine qE e s.P T V (Cf (λg=>?_) (λg=>?_))
   ·rw[A6 g] at H;exact kc _ _ (λZ B=>B _ _ _ G R rfl s (by exact A3 0x842020104210050810421004c3 [_,_,_] [] m) H)
   ·rw[A5 g] at H;refine BX (s.P.pv.at C.1 C.2) λia r1 r2 r3=>?_;haveI w1:word zn:=BC (A3 0x160113b9aca0030dcc2802012c0200041 [_] [_] C) (AK 0x17dcd6500186012280005cc2802012c0200041 [_] [_] hl C);haveI pd:BF (i:Int) (r.map AV.int).length=some i:=M (by rw[Ak];exact q4);exists s.P.AG,s.N.Hf,E,q1,pd,(by rw[Bb,a1];rfl:(r.map AV.int)[i]?=some (.int zn));refine(DX w1 s.P.pv.A1 (Gk r3) (Gl r1) ?_:);exact qo S s m F (Bj d) T r2 C H kn λj y w=>kr _ _ _ w
 ·intro j y a;refine a _ λx4 x5 x6 G R y1 s m H=>?_;rcases y1 with rfl
  simp only[List.length_map,List.length_range,Int.toNat_natCast] at m H;rw[show x.N.drop N.length=[] from Fx] at H;exact U y G R H s.kp s.P s.N s.S s.O m
end
def Jd (P:AM)(m:Mode)(w:Nat)(l Aj:Bool)(b e:Int)(F:Int->Ap->Bool)(H:Int->Int->Bool)(k:QL->Int->BR->BR)(N:QL)(a:Int)(S:BR):BR:=
  if a<=e/\M9 m S=false then
   if N=[]/\JZ l b m S a=false then S
   else
    let T:=Ek P m (decide (a=e)||!Aj) (decide (a<e)) (F a) (H (a+1)) a (if JZ l b m S a=true then FL P (H a) a P.start (Od w a) N else N) S []
    k T.2 (a+1) T.1
  else S
noncomputable def Je (P:AM)(m:Mode)(w:Nat)(l Aj:Bool)(b e:Int)(F:Int->Ap->Bool)(H:Int->Int->Bool):Nat->QL->Int->BR->BR
 | 0,_,_,S=>S
 | n+1,N,a,S=>Jd P m w l Aj b e F H (Je P m w l Aj b e F H n) N a S
def MH{H:Int->Int->Bool}:Je P m w l Aj b e F H (n+1) N a S=Jd P m w l Aj b e F H (Je P m w l Aj b e F H n) N a S:=rfl
def Jf (P:AM)(m:Mode)(w:Nat)(l Aj:Bool)(t:List Int)(b e:Int)(F:Int->Ap->Bool)(H:Int->Int->Bool):BR:=
 if OZ P t b e=true then⟨none,[]⟩ else Je P m w l Aj b e F H (e+1-b).toNat [] b ⟨none,[]⟩
abbrev Wn:Addr->Prop:=λZ=>False
def qt(s:Addr)(Q:PE)(I:AH)(n:Prop):Prop:=
 ∀w p C a P t b e l Aj m,(Ba Wn w I s p C a P t b e l Aj m ⟨none,[]⟩)->(P.Ok)->(room t.length)->(0<=b)->(b<=e)->(e<=t.length)->(e<=b+2)->(1<=w)->(w<=1000)->((m≠.i->2<=w))->(∀S,KP (IU s) I S->Ba Wn w S s p C a P t b e l Aj m (Jf P m w l Aj t b e (Ci t) (Cv t))->Q .none S)->n
def qu(s:Addr)(Q:PE)(S:AH):Prop:=Ch (qt s Q S)
def T1:List AV->PE->AH->Prop:=
 aO λs=>aN λQ S=>qu s Q S
def T2:Tb:=(76,T1)::Sw
def Ba.qw{W Y:Addr->Prop}{M p C:Addr}(V:Ba W w S M p C A P t b e l Aj m X)(Q:¬Y C)(n:∀x,Y x->W x\/S.A1 x=none):Ba Y w S M p C A P t b e l Aj m X:=by
 refine(λZ E=>E V.cls V.prog V.AG V.pv V.text V.FJ V.en V.Fg V.GB V.width V.scan ?_ Q);have H:=V.GC;cases m with
 | i=>exact H
 | s F many=>
  obtain ⟨a,b,c⟩:=H;refine⟨a,b,?_⟩;cases h:X.best with
  | none=>rw[h] at c;exact c
  | some x=>
   rw[h] at c;obtain ⟨B,c1,I,D,L⟩:=c;exact⟨B,c1,I,(λw=>(n _ w).elim D λq=>by exact nO I q),L⟩
set_option genInjectivity false in
set_option genSizeOf false in
structure GD(Q:PE) where
 (W:Addr->Prop) (w:Nat) (σ:AH) (s p il:Addr) (as:List Addr) (P:AM) (t:List Int) (b e:Int) (Ca Aj:Bool) (md:Mode) (res:BR)
 K:P.Ok
 ht:room t.length
 het:e<=t.length
 T3:1<=w
 Jc:w<=1000
 T4:md≠.i->2<=w
 fw:∀x,W x->σ.fresh x
 hq:∀Aq,KP (IU s) σ Aq->Ba Wn w Aq s p il as P t b e Ca Aj md res->Q .none Aq
def MI{W:Addr->Prop}{L:QL}(Q:BD W w t q d s v n L)(x:Addr)(h:x=d\/x=s\/x=v):t.A1 x≠none:=by
 refine Q.ex _ λD p V U o A Z Z Z Z Z=>?_;rcases h with rfl| rfl| rfl
 ·exact nn U
 ·exact nn o
 ·exact nn A
def BD.w3{W:Addr->Prop}{L:QL}(V:BD W w t q d s v n L)(x:Addr)(h:x=d\/x=s\/x=v):W x:=by
 rcases h with rfl| rfl| rfl
 ·exact V.W1
 ·exact V.W2
 ·exact V.W3
namespace GD
variable{Q:PE}(x:GD Q)
def qx(n q D T V d S v:Addr)(N L:QL)(t:AH)(X:BR)(l:Prop):Prop:=
 (KP (λp a=>IU x.s p a\/x.σ.fresh a) x.σ t)->(Ba x.W x.w t x.s x.p x.il x.as x.P x.t x.b x.e x.Ca x.Aj x.md X)->(BD x.W x.w t n D T V x.P.AG.length N)->(BD x.W x.w t q d S v x.P.AG.length L)->(Ej x.P N)->(n≠q)->(∀x,(x=d\/x=S\/x=v)->¬(x=D\/x=T\/x=V))->(x.σ.fresh n)->(x.σ.fresh q)->(∀y,x.W y->t.A1 y≠none)->l
def CU(n q D T V d S v:Addr)(N L:QL)(t:AH)(X:BR):Prop:=Ch (x.qx n q D T V d S v N L t X)
section
variable{x}{now q dn sn vn dl sl vl:Addr}{N L:QL}{A7:AH}{X:BR}(zh:x.CU now q dn sn vn dl sl vl N L A7 X)
def CU.kp:=zh _ λz Z Z Z Z Z Z Z Z Z=>z
def CU.pv:=zh _ λZ z Z Z Z Z Z Z Z Z=>z
def CU.nv:=zh _ λZ Z z Z Z Z Z Z Z Z=>z
def CU.qv:=zh _ λZ Z Z z Z Z Z Z Z Z=>z
def CU.no:=zh _ λZ Z Z Z z Z Z Z Z Z=>z
def CU.ne:=zh _ λZ Z Z Z Z z Z Z Z Z=>z
def CU.IX:=zh _ λZ Z Z Z Z Z z Z Z Z=>z
def CU.f1:=zh _ λZ Z Z Z Z Z Z z Z Z=>z
def CU.f2:=zh _ λZ Z Z Z Z Z Z Z z Z=>z
def CU.lv:=zh _ λZ Z Z Z Z Z Z Z Z z=>z
end
abbrev run (n:Nat)(N:QL)(a:Int)(X:BR):BR:=Je x.P x.md x.w x.Ca x.Aj x.b x.e (Ci x.t) (Cv x.t) n N a X
def IF(n:Nat)(t:AH)(y q D T V d S v:Addr)(N:QL)(a:Int)(X:BR)(l:Prop):Prop:=
 (x.CU y q D T V d S v N [] t X)->(0<=a)->(n=(x.e+1-a).toNat)->(X.ids.length+20*n<=60)->(x.res=x.run n N a X)->l
def C(n:Nat)(t:AH)(y q D T V d S v:Addr)(N:QL)(a:Int)(X:BR):Prop:=Ch (x.IF n t y q D T V d S v N a X)
section
variable{x}{n:Nat}{A7:AH}{now q dn sn vn dl sl vl:Addr}{N:QL}{a:Int}{X:BR}(zh:x.C n A7 now q dn sn vn dl sl vl N a X)
def C.t:=zh _ λz Z Z Z Z=>z
def C.a0:=zh _ λZ z Z Z Z=>z
def C.hn:=zh _ λZ Z z Z Z=>z
def C.ids:=zh _ λZ Z Z z Z=>z
def C.res:=zh _ λZ Z Z Z z=>z
end
noncomputable abbrev Lc (n q:Addr)(a:Int):AE:=[some (.obj x.s),some (.obj n),some (.obj q),some (.int a)]
def JF(n:Nat)(L:AE)(t:AH)(l:Prop):Prop:=
 ∀y q D T V d S v N a X,x.C n t y q D T V d S v N a X->L=x.Lc y q a->l
def A0(n:Nat)(L:AE)(t:AH):Prop:=Ch (x.JF n L t)
variable{x}{A7 CH:AH}{now q dn sn vn dl sl vl:Addr}{N L N':QL}{X X':BR}{n:Nat}{a:Int}
def CU.flip(i:x.CU now q dn sn vn dl sl vl N L A7 X)(o:Ej x.P L):x.CU q now dl sl vl dn sn vn L N A7 X:=(λZ B=>B i.kp i.pv i.qv i.nv o (C1 i.ne) (λy h H=>i.IX y H h) i.f2 i.f1 i.lv)
def CU.upd(i:x.CU now q dn sn vn dl sl vl N L A7 X)(k:KP (E8 now dn sn vn) A7 CH)(v:BD x.W x.w CH now dn sn vn x.P.AG.length N')(o:Ej x.P N'):x.CU now q dn sn vn dl sl vl N' L CH X:=by
 have M:∀a,E8 now dn sn vn .f a->A7.cls a=some 596:=λa w=>by have w:a=now:=w;rw[w];exact i.nv.cls
 have m:∀c,E8 now dn sn vn .l c->x.W c:=i.nv.w3;refine(λZ B=>B (i.kp.tr k λp y w=>?_) (i.pv.kp k M m (λZ w=>w)) v (i.qv.kp k (λt H w=>by rw[M t w] at H;cases H) m (λw=>i.ne w.symm) (λw=>i.IX dl (.inl rfl) w) (λw=>i.IX sl (.inr (.inl rfl)) w) (λw=>i.IX vl (.inr (.inr rfl)) w)) o i.ne i.IX i.f1 i.f2 (λy O=>?_))
 ·cases p
  ·have w:y=now:=w;rw[w];exact .inr i.f1
  ·exact .inr (x.fw _ (m _ w))
  ·exact w.elim
  ·exact w.elim
  ·exact w.elim
 ·by_cases h:y=dn\/y=sn\/y=vn
  ·exact MI v y h
  ·exact MC k (i.lv y O) h
def CU.Ao(i:x.CU now q dn sn vn dl sl vl N L A7 X)(k:KP M0 A7 CH):x.CU now q dn sn vn dl sl vl N L CH X:=
 (λZ B=>B (i.kp.trans (k.mono λZ Z w=>w.elim)) (i.pv.kp k (λZ w=>w.elim) (λZ w=>w.elim) (λZ w=>w)) (i.nv.kp k (λZ Z w=>w) (λZ w=>w.elim) (λw=>w) (λw=>w) (λw=>w) (λw=>w)) (i.qv.kp k (λZ Z w=>w) (λZ w=>w.elim) (λw=>w) (λw=>w) (λw=>w) (λw=>w)) i.no i.ne i.IX i.f1 i.f2 (λy h=>MC k (i.lv y h) λw=>w))
def CU.done(i:x.CU now q dn sn vn dl sl vl N L A7 X)(h:x.res=X):Q .none A7:=x.hq A7 i.kp.drop (by rw[h];exact i.pv.qw (λw=>w) (λZ w=>w.elim))
end GD
section
variable{I:Ag}(S:AU I Sw)
include S
def Z9{Q:PE}{x:GD Q}{g q D T V d f v:Addr}{N:QL}{a:Int}{t:AH}{X:BR}{n:Nat}{K:Fl->AE->AH->Prop}(i:x.CU g q D T V d f v N [] t X)(A:0<=a)(Y:a<=x.e)(o:n+1=(x.e+1-a).toNat)(m:X.ids.length+20*(n+1)<=60)
  (E:x.res=x.run n (Ek x.P x.md (decide (a=x.e)||!x.Aj) (decide (a<x.e)) (Ci x.t a) (Cv x.t (a+1)) a N X []).2 (a+1) (Ek x.P x.md (decide (a=x.e)||!x.Aj) (decide (a<x.e)) (Ci x.t a) (Cv x.t (a+1)) a N X []).1)
  (G:∀L t,x.A0 n L t->K .next L t):AP I ((Bc LW 2).drop 2) K (x.Lc g q a) t:=by
 have c:AU I Gu:=S.dr 5;have W:=i.nv.len;haveI M:=x.K.len;haveI j:=x.het;haveI r:a<=x.t.length:=AK 0x2ca00804b088025940108881 [_] [_,_] Y j;exists i.pv.cls,BU c.m (Hk x.md).2.2.2.2.1;refine sp_i (S.g 75 rfl) (λZ B=>B x.W x.w _ _ _ _ _ _ _ _ _ _ X D T V N d f v [] i.pv x.K i.nv i.qv i.no (λe h=>(by cases h)) i.ne i.IX x.ht A r j x.Jc x.T4 i.lv (CA 0x80f043404200a03c10d14320201040140c210a28018504 [_,_,_,_] [] m W M) (λZA X2 l p k2 P C U F O=>A8 (.inl rfl) (A8 (AN rfl) ?_)));rw[show Ek x.P x.md (decide (a=x.e)||!x.Aj) (decide (a<x.e)) (Ci x.t a) (Cv x.t (a+1)) a N X []=(X2,l) from p] at E;haveI i2:x.CU g q D T V d f v N l ZA X2:=by
  refine(λZ B=>B (i.kp.tr k2 λpa y w=>?_) P C U i.no i.ne i.IX i.f1 i.f2 (λy R=>?_))
  ·cases pa
   ·rcases w with w| w
    ·exact .inl w
    ·rw[w];exact .inr i.f2
   ·exact .inr (x.fw _ (i.qv.w3 _ w))
   ·exact w.elim
   ·exact .inl trivial
   ·exact w.elim
  ·by_cases H:y=d\/y=f\/y=v
   ·exact MI U y H
   ·exact MC k2 (i.lv y R) H
 exists C.cls,BU c.m (by decide+kernel:Am 596 25=some 57);refine sp_i (c.g 57 rfl) (λZ B=>B x.W x.w D T V x.P.AG.length N C (λZ7 k3 A0=>A8 (.inl rfl) (A8 trivial (G _ _ (λZ B=>B _ _ _ _ _ _ _ _ l (a+1) X2 (λZ B=>B ((i2.upd k3 A0 λe h=>(by cases h)).flip F) (A3 0x2d010004002c0200040 [] [_] A) (A3 0x5152808022404001002a2a422404001202000481 [_] [_,_] o) (Kj 0x203c10d14304200a03c10d143202008441410230a280205081844100545 [_,_,_,_,_] [] m W M O) E) rfl)))))
def ZC{Q:PE}{x:GD Q}{y q d T v D l P:Addr}{N:QL}{a:Int}{t:AH}{X:BR}{n:Nat}{K:Fl->AE->AH->Prop}(i:x.CU y q d T v D l P N [] t X)(V:0<=a)(A:a<=x.e)(H:n+1=(x.e+1-a).toNat)(j:X.ids.length+20*(n+1)<=60)(e:M9 x.md X=false)(E:¬(N=[]/\JZ x.Ca x.b x.md X a=false))
  (h:x.res=x.run (n+1) N a X) (G:∀L t,x.A0 n L t->K .next L t):AP I ((Bc LW 2).drop 1) K (x.Lc y q a) t:=by
 haveI O:AU I Jb:=S.dr 2;haveI c:AU I Gu:=O.dr 3;haveI f:=x.het;haveI r:a<=x.t.length:=AK 0x2ca00804b088025940108881 [_] [_,_] A f;replace h:x.res=_:=h.trans (by rw[GD.run,MH,Jd,A6 ⟨A,e⟩,A5 E]);exists i.pv.cls,BU c.m (Hk x.md).1;refine sp_i (O.g 71 rfl) (λZ B=>B x.W x.w _ _ _ _ _ _ _ _ _ _ X i.pv (Cf (λg=>?_) (λg=>?_)))
 ·have h:=(A6 g)▸h;exists i.pv.cls,BU c.m (Hk x.md).2.2.2.1,i.pv.prog,i.pv.pv.start,i.pv.cls,BU c.m (Hk x.md).2.2.1;refine sp_i (O.g 73 rfl) (λZ B=>B x.W x.w _ _ _ _ _ _ _ _ _ _ X i.pv x.T3 x.Jc i.lv (λF M k1 R=>?_));haveI C:=i.Ao k1;exact sp_i (S.g 74 rfl) (λZ B=>B x.W x.w _ _ _ _ _ _ _ _ _ _ X d T v N (Od x.w a) C.pv x.K C.nv R i.no x.ht V r x.Jc C.lv x.K.start.1 x.K.start.2 (λw k2 A0 Y=>A8 (.inl rfl) (Z9 S (C.upd k2 A0 Y) V A H j h G)))
 ·haveI h:=(A5 g)▸h;exact Z9 S i V A H j h G
def qy{Q:PE}{x:GD Q}{y q D U V d e v:Addr}{N:QL}{a:Int}{t:AH}{X:BR}{n:Nat}{K:Fl->AE->AH->Prop}(i:x.CU y q D U V d e v N [] t X)(A:0<=a)(Y:a<=x.e)(T:n+1=(x.e+1-a).toNat)(C:X.ids.length+20*(n+1)<=60)(h:M9 x.md X=false)
  (H:x.res=x.run (n+1) N a X) (G:∀L t,x.A0 n L t->K .next L t) (ret:∀L t,Q .none t->K (.ret .none) L t):AP I (Bc LW 2) K (x.Lc y q a) t:=by
 haveI O:AU I Jb:=S.dr 2;haveI c:AU I Gu:=O.dr 3;exists i.nv.GA;refine Ai (λg=>?_) (λg=>?_)
 ·haveI l:N=[]:=List.length_eq_zero_iff.1 (A3 0xa000016800500441 [_] [] g);exists i.pv.cls,BU c.m (Hk x.md).2.1;refine sp_i (O.g 72 rfl) (λZ B=>B x.W x.w _ _ _ _ _ _ _ _ _ _ X i.pv ?_);cases R:JZ x.Ca x.b x.md X a with
  | false=>
   rw[A5 (by decide:¬false=true)];refine Ai (λZ=>ret _ _ (i.done ?_)) (λw=>Ad (by decide:(-1:Int)<0) w);rw[H,GD.run,MH,Jd,A6 ⟨Y,h⟩,A6 ⟨l,R⟩]
  | true=>
   rw[A6 rfl];exact Ai (λw=>Ad w (by refine(?_:¬a<0);exact A3 0x46000012c0200040 [] [_] A)) λZ=>ZC S i A Y T C h (λw=>by rw[R] at w;cases w.2) H G
 ·exact ZC S i A Y T C h (λw=>g (by rw[w.1];rfl)) H G
def qz:Vc I 1 3 LW T1:=λargs Qa D h=>by
 apply Cu h;clear h;intro s hh;refine⟨rfl,?_⟩;refine hh _ λw pa t a P ta b e Ca Aj M V K j r6 zk het r7 T3 Jc T4 H=>?_;haveI r8:AU I Jb:=S.dr 2;have c:AU I Gu:=r8.dr 3;haveI N:=K.len;haveI r9:=K.pos;have hlen:=V.pv.len;unfold Jf at H;exists V.prog,V.text,V.FJ,V.en;refine sp_i (c.g 61 rfl) ⟨t,a,P,V.pv,j,Cf (λg=>?_) (λg=>?_)⟩
 ·haveI H:=(A6 g)▸H;exact H D KP.refl V
 rw[A5 g] at H;have R:room (a.map AV.obj).length:=by unfold room;rw[Ak];exact AK 0x8f424020c01450010a82100482 [_,_] [] N hlen
 have r:1<=((a.map AV.obj).length:Int):=by rw[Ak];exact AK 0x16500420484200282100482 [_,_] [] r9 hlen
 have d:((a.map AV.obj).length:Int)<=1000:=by rw[Ak];exact AK 0x5fd0219401450010a82100482 [_,_] [] N hlen
 have hN:((a.map AV.obj).length:Int).toNat=P.AG.length:=by rw[Ak,hlen];simp
 exists V.AG;refine .inl ⟨_,V.pv.A1,R,sp_i (c.g 53 rfl) (Yu r d λG9 q1 f E O k1 f1 f2 f3 f4 Q=>?_)⟩;have p:=V.kp k1 (λZ w=>w.elim) (λZ w=>w.elim) (λZ w=>w);exists p.AG;refine .inl ⟨_,p.pv.A1,R,sp_i (c.g 53 rfl) (Yu r d λC q2 l A0 U k2 G X g3 g4 Y=>?_)⟩;have v:=p.kp k2 (λZ w=>w.elim) (λZ w=>w.elim) (λZ w=>w);exists v.FJ,AN rfl;rw[hN] at Q Y;let W:Addr->Prop:=λx=>(x=f\/x=E\/x=O)\/(x=l\/x=A0\/x=U)
 have A:=Q W w (.inl (.inl rfl)) (.inl (.inr (.inl rfl))) (.inl (.inr (.inr rfl)));have o:=Y W w (.inr (.inl rfl)) (.inr (.inr (.inl rfl))) (.inr (.inr (.inr rfl)));have y:=A.kp k2 (λZ Z w=>w) (λZ w=>w.elim) (λw=>w) (λw=>w) (λw=>w) (λw=>w);have F:∀x,W x->D.fresh x:=λx hx=>by
  rcases hx with(rfl| rfl| rfl)| (rfl| rfl| rfl)
  ·exact f2
  ·exact f3
  ·exact f4
  ·exact k1.live _ X
  ·exact k1.live _ g3
  ·exact k1.live _ g4
 let x:GD Qa:=⟨W,w,D,s,pa,t,a,P,ta,b,e,Ca,Aj,M,_,K,j,het,T3,Jc,T4,F,H⟩
 haveI i0:x.CU q1 q2 f E O l A0 U [] [] C ⟨none,[]⟩:=by
  refine(λZ B=>B ((k1.trans k2).mono λZ Z w=>w.elim) (λZ B=>B v.cls v.prog v.AG v.pv v.text v.FJ v.en v.Fg v.GB v.width v.scan ?_ (λw=>by have:=(F _ w).2.1;exact nO V.pv.A1 this)) y o (λe he=>(by cases he)) (λw=>?_) (λx h h'=>?_) f1 (k1.live _ G) (λya hy=>hy.elim (MI y ya) (MI o ya)))
  ·haveI h:=v.GC;revert h;refine(?_:IT Wn C s M ⟨none,[]⟩->IT W C s M ⟨none,[]⟩);cases M<;>exact id
  ·have:=G.1;rw[<-w,A.cls] at this;cases this
  ·haveI l1:=MI A x h';haveI:G9.fresh x:=by rcases h with rfl| rfl| rfl<;>assumption
   exact l1 this.2.1
 refine⟨x.A0,⟨_,(λZ B=>B _ _ _ _ _ _ _ _ [] b ⟨none,[]⟩ (λZ B=>B i0 r6 rfl (by refine(?_:0+20*(e+1-b).toNat<=60);exact A3 0x80f043450c54844808002001681002200880 [] [_,_] r7) rfl) rfl)⟩,?_⟩;intro n L A7 zz;refine zz _ λnow q dn sn vn dl sl vl Na aa Xa i y1=>?_;rcases y1 with rfl
 exists i.t.pv.en;refine Ai (λG=>?_) (λG=>BW (i.t.done ?_))
 ·exists i.t.pv.cls;haveI T:=i.hn;haveI G:aa<=x.e:=G;obtain ⟨m,rfl⟩:∃m,n=m+1:=⟨n-1,by exact AK 0x14808121000200ac2200945480480802200481 [_] [_,_] (by assumption) T⟩;refine(O1 c.m ?_:);refine qD c i.t.pv (Nz (λX=>?_) (λX=>i.t.done ?_))
  ·exact qy S i.t i.a0 G T i.ids (Bool.of_not_eq_true X) i.res (λL A7 w=>⟨m,GQ m,w⟩) λL A7 w=>w
  ·rw[i.res,GD.run,MH,Jd,A5 λw=>by rw[show M9 M Xa=true from X] at w;cases w.2]
 ·rw[i.res,GD.run];cases n with
  | zero=>rfl
  | succ n=>rw[MH,Jd,A5 λw=>G w.1]
end
def rA(w:Nat)(S:AH)(m p C:Addr)(a:List Addr)(P:AM)(t:List Int)(b e:Int)(l Aj:Bool)(o:Prop):Prop:=
 (S.A4 m 25=some (.obj p))->(S.A4 m 8=some (.obj C))->(BJ S p C a P)->(S.A4 m 43=some (.bytes t))->(S.A4 m 44=some (.int b))->(S.A4 m 45=some (.int e))->(S.A4 m 46=some (.bool l))->(S.A4 m 47=some (.bool Aj))->(S.A4 m 48=some (.int w))->(∃n,S.A4 m 49=some (.obj n)/\S.cls n=some 540/\S.A4 n 36=some (.bytes [])/\n≠m)->o
def EO(w:Nat)(S:AH)(m p C:Addr)(a:List Addr)(P:AM)(t:List Int)(b e:Int)(l Aj:Bool):Prop:=Ch (rA w S m p C a P t b e l Aj)
section
variable(zh:EO w σ me p il as P t b e Ca Aj)
def EO.prog:=zh _ λz Z Z Z Z Z Z Z Z Z=>z
def EO.AG:=zh _ λZ z Z Z Z Z Z Z Z Z=>z
def EO.pv:=zh _ λZ Z z Z Z Z Z Z Z Z=>z
def EO.text:=zh _ λZ Z Z z Z Z Z Z Z Z=>z
def EO.FJ:=zh _ λZ Z Z Z z Z Z Z Z Z=>z
def EO.en:=zh _ λZ Z Z Z Z z Z Z Z Z=>z
def EO.Fg:=zh _ λZ Z Z Z Z Z z Z Z Z=>z
def EO.GB:=zh _ λZ Z Z Z Z Z Z z Z Z=>z
def EO.width:=zh _ λZ Z Z Z Z Z Z Z z Z=>z
def EO.scan:=zh _ λZ Z Z Z Z Z Z Z Z z=>z
end
def EO.up{m p C:Addr}(h:EO w S m p C a P t b e l Aj)(n:m≠p)(N:m∉a)(H:50<=f\/f=21):EO w (S.uF m f v) m p C a P t b e l Aj:=by
 haveI g:∀k,k≠f->(S.uF m f v).A4 m k=S.A4 m k:=λk Q=>by rw[DO,A5 (λw=>Q w.2)]
 refine Ht h.scan λr I o j A=>?_;haveI k:KP (MF m) S (S.uF m f v):=KP.BK (.inl rfl);exact(λZ B=>B (by rw[g _ (by exact A3 0x45003903d55000280043210c41 [_] [] H)];exact h.prog) (by rw[g _ (by exact A3 0x45002803d55000280043210c41 [_] [] H)];exact h.AG) (h.pv.pos n N k) (by rw[g _ (by exact A3 0x1140085621bd55000280043210c41 [_] [] H)];exact h.text) (by rw[g _ (by exact A3 0x1140085821bd55000280043210c41 [_] [] H)];exact h.FJ) (by rw[g _ (by exact A3 0x1140085a21bd55000280043210c41 [_] [] H)];exact h.en) (by rw[g _ (by exact A3 0x1140085c21bd55000280043210c41 [_] [] H)];exact h.Fg) (by rw[g _ (by exact A3 0x1140085e21bd55000280043210c41 [_] [] H)];exact h.GB) (by rw[g _ (by exact A3 0x1140086021bd55000280043210c41 [_] [] H)];exact h.width) ⟨r,by rw[g _ (by exact A3 0x1140086221bd55000280043210c41 [_] [] H)];exact I,o,by rw[DO,A5 (λw=>A w.1)];exact j,A⟩)
noncomputable def Fh (P:AM)(a:Int):Bool:=decide (a=0)&&!P.DE
noncomputable def GF (P:AM)(a:Int):Bool:=decide (a=2)||P.CO
def rB(s:Addr)(p:Addr)(t:List Int)(b:Int)(e:Int)(A:Int)(w:Int)(Q:PE)(S:AH)(l:Prop):Prop:=
 ∀c C a P d,(S.cls s=some c)->(c≠132)->(c≠540)->(s≠p)->(s∉a)->(BJ S p C a P)->(P.rev=false)->(S.A4 p 16=some (.bytes []))->(S.A4 p 17=some (.bool d))->(0<=w)->(∀E,KP (MF s) S E->EO w.toNat E s p C a P t b e (Fh P A) (GF P A)->Q .none E)->l
def rD(s:Addr)(p:Addr)(t:List Int)(b:Int)(e:Int)(a:Int)(w:Int)(Q:PE)(S:AH):Prop:=Ch (rB s p t b e a w Q S)
def T6:List AV->PE->AH->Prop:=
 aO λs=>aO λp=>aY λt=>aI λb=>aI λe=>aI λa=>aI λw=>aN λQ S=>rD s p t b e a w Q S
def rE(s:Addr)(p:Addr)(t:List Int)(b:Int)(e:Int)(A:Int)(K:Int)(m:Int)(Q:PE)(S:AH)(l:Prop):Prop:=
 ∀C a P d,(S.cls s=some 773)->(s≠p)->(s∉a)->(BJ S p C a P)->(P.rev=false)->(S.A4 p 16=some (.bytes []))->(S.A4 p 17=some (.bool d))->(0<=m)->(m<=100)->(∀E,KP (MF s) S E->Ba Wn (max 2 (2*m)).toNat E s p C a P t b e (Fh P A) (GF P A) (.s (decide (K=1)) m) ⟨none,[]⟩->Q .none E)->l
def rG(s:Addr)(p:Addr)(t:List Int)(b:Int)(e:Int)(a:Int)(K:Int)(m:Int)(Q:PE)(S:AH):Prop:=Ch (rE s p t b e a K m Q S)
def Of:List AV->PE->AH->Prop:=
 aO λs=>aO λp=>aY λt=>aI λb=>aI λe=>aI λa=>aI λK=>aI λm=>aN λQ S=>rG s p t b e a K m Q S
def rH(s:Addr)(p:Addr)(t:List Int)(b:Int)(e:Int)(A:Int)(Q:PE)(S:AH)(l:Prop):Prop:=
 ∀C a P d,(S.cls s=some 801)->(s≠p)->(s∉a)->(BJ S p C a P)->(P.rev=false)->(S.A4 p 16=some (.bytes []))->(S.A4 p 17=some (.bool d))->(∀E,KP (MF s) S E->Ba Wn 1 E s p C a P t b e (Fh P A) (GF P A) .i ⟨none,[]⟩->Q .none E)->l
def rI(s:Addr)(p:Addr)(t:List Int)(b:Int)(e:Int)(a:Int)(Q:PE)(S:AH):Prop:=Ch (rH s p t b e a Q S)
def Oh:List AV->PE->AH->Prop:=
 aO λs=>aO λp=>aY λt=>aI λb=>aI λe=>aI λa=>aN λQ S=>rI s p t b e a Q S
def MD:Pl->Addr->Prop
 | .i,_=>True
 | _,_=>False
def MJ (P:AM)(t:List Int)(b e a K m:Int)(F:Int->Ap->Bool)(H:Int->Int->Bool):Option (List Int):=
 (Jf P (.s (decide (K=1)) m) (max 2 (2*m)).toNat (Fh P a) (GF P a) t b e F H).best.map (·.take (2*m).toNat)
def Oi (P:AM)(t:List Int)(b e a:Int)(F:Int->Ap->Bool)(H:Int->Int->Bool):List Int:=
 sortI (Jf P .i 1 (Fh P a) (GF P a) t b e F H).ids
def rJ(p:Addr)(t:List Int)(b:Int)(e:Int)(a:Int)(K:Int)(m:Int)(Q:PE)(I:AH)(n:Prop):Prop:=
 ∀C A P d,(BJ I p C A P)->(P.Ok)->(P.rev=false)->(I.A4 p 16=some (.bytes []))->(I.A4 p 17=some (.bool d))->(1<=m)->(m<=100)->(K≠2)->(room t.length)->(0<=b)->(b<=e)->(e<=t.length)->(e<=b+2)->((∀S,KP MD I S->MJ P t b e a K m (Ci t) (Cv t)=none->Q .none S))->((∀S r l,KP MD I S->MJ P t b e a K m (Ci t) (Cv t)=some l->S.A1 r=some (l.map .int)->Q (.obj r) S))->n
def rK(p:Addr)(t:List Int)(b:Int)(e:Int)(a:Int)(K:Int)(m:Int)(Q:PE)(S:AH):Prop:=Ch (rJ p t b e a K m Q S)
def T7:List AV->PE->AH->Prop:=
 aO λp=>aY λt=>aI λb=>aI λe=>aI λa=>aI λK=>aI λm=>aN λQ S=>rK p t b e a K m Q S
def rL(p:Addr)(t:List Int)(b:Int)(e:Int)(a:Int)(Q:PE)(S:AH)(l:Prop):Prop:=
 ∀C A P d,(BJ S p C A P)->(P.Ok)->(P.rev=false)->(S.A4 p 16=some (.bytes []))->(S.A4 p 17=some (.bool d))->(room t.length)->(0<=b)->(b<=e)->(e<=t.length)->(e<=b+2)->((∀E r,KP MD S E->E.A1 r=some ((Oi P t b e a (Ci t) (Cv t)).map .int)->Q (.obj r) E))->l
def rM(p:Addr)(t:List Int)(b:Int)(e:Int)(a:Int)(Q:PE)(S:AH):Prop:=Ch (rL p t b e a Q S)
def T8:List AV->PE->AH->Prop:=
 aO λp=>aY λt=>aI λb=>aI λe=>aI λa=>aN λQ S=>rM p t b e a Q S
def ZD:word 2:=BC (by decide) (by decide)
def rN(m:Int):0<=max 2 (2*m):=Em (by decide) (Int.le_max_left 2 (2*m))
def BJ.nw{p C:Addr}(V:BJ S p C a P)(F:S.fresh s)(c:Addr):s≠p/\s∉a/\BJ (S.uN s c) p C a P/\∀f,(S.uN s c).A4 p f=S.A4 p f:=
 have n:s≠p:=λw=>by have:=F.1;exact nO (w▸V.cls) this
 ⟨n,λh=>(by have:=V.Ei h;exact nO this F.1),V.kp (KP.new (M:=M0) F.1) (λw=>w) (λw=>w) (λZ Z w=>w),λf=>A5 n.symm⟩
def ZE{S r t C:AH}(f:S.fresh s)(K:KP (λp a=>MD p a\/S.fresh a) S r)(k1:KP (MF s) r t)(k2:KP (IU s) t C):KP (λp a=>MD p a\/S.fresh a) S C:=
 (K.tr k1 λp a w=>by cases p<;>first| exact .inr ((w:a=s)▸f)| exact w.elim).tr k2 λp a w=>by
  cases p<;>first| exact .inr ((w:a=s)▸f)| exact w.elim| exact .inl trivial
def T9:Tb:=(62,T6)::(78,CN Of 773)::(80,CN Oh 801)::T2
section
variable{I:Ag}(S:AU I T2)
include S
def rO:Vc I 7 0 Nu T6:=λargs Q E h=>by
 apply Bh h;clear h;intro s _ H;apply Bh H;clear H;intro p _ H;apply EZ H;clear H;intro t _ H;apply BN H;clear H;intro b _ H;apply BN H;clear H;intro e _ H;apply BN H;clear H;intro A _ H;apply Fd H;clear H;intro W H;refine⟨rfl,?_⟩;refine H _ λc Y as P j A0 rP zl n n2 V TA rQ rR rS hq=>?_;have C:∀f,EU c f=true:=λf=>by
  unfold EU;rw[beq_eq_false_iff_ne.2 rP];rfl
 exists V.rev;refine⟨λw=>(CW (TA.symm.trans w)).elim,λZ=>?_⟩;exists A0,C _,fo n.symm V.AG,A0,C _,A0,C _,A0,C _,A0,C _;have r:∀l Aj:Bool,l=Fh P A->Aj=GF P A->AP I (Nu.drop 8) (BB Q) [some (.obj s),some (.obj p),some (.bytes t),some (.int b),some (.int e),some (.int A),some (.int W)]
   (((((((E.uF s 25 (.obj p)).uF s 8 (.obj Y)).uF s 43 (.bytes t)).uF s 44 (.int b)).uF s 45 (.int e)).uF s 46 (.bool l)).uF s 47 (.bool Aj)):=by
  intro l Aj O X;rw[O,X];exists A0,C _;generalize K:((((((((E.uF s 25 (.obj p)).uF s 8 (.obj Y)).uF s 43 (.bytes t)).uF s 44 (.int b)).uF s 45 (.int e)).uF s 46 (.bool (Fh P A))).uF s 47 (.bool (GF P A))).uF s 48 (.int W))=T;have k1:KP (MF s) E T:=by
   refine(K)▸?_
   repeat first| exact KP.BK (.inl rfl)| refine KP.trans ?_ (KP.BK (.inl rfl))
  haveI F:T.A4 s 25=some (.obj p)/\T.A4 s 8=some (.obj Y)/\T.A4 s 43=some (.bytes t)/\T.A4 s 44=some (.int b)/\T.A4 s 45=some (.int e)/\T.A4 s 46=some (.bool (Fh P A))/\T.A4 s 47=some (.bool (GF P A))/\T.A4 s 48=some (.int W):=by
   refine(K)▸?_;refine⟨?_,?_,?_,?_,?_,?_,?_,?_⟩<;>repeat first| exact fe| refine fn rfl ?_
  clear K;haveI v:=k1.A4 p (by rw[V.cls];exact nofun) λw=>n w.symm;haveI o:=k1.cls _ _ A0;exists (congrFun v 16).trans rQ,(congrFun v 17).trans rR,(S.g 50 rfl);intro m D;refine⟨ce,λd G=>⟨rfl,?_⟩⟩;have N:m≠s:=λw=>by have:=D.1;exact nO (w▸o) this
  have k2:KP M0 T (((((T.uN m 540).uF m 36 (.bytes [])).uF m 6 (.bool j)).uI d []).uF m 37 (.obj d)):=by
   haveI a:=KP.new (M:=λp a=>M0 p a\/T.fresh a) (σ:=T) (c:=540) D.1;exact KP.drop ((((a.trans (KP.BK (.inl (.inr D)))).trans (KP.BK (.inl (.inr D)))).trans (KP.Gq (.inl (.inr ((KP.new (M:=M0) (c:=540) D.1).live _ G))))).trans (KP.BK (.inl (.inr D))))
  haveI U:(((((T.uN m 540).uF m 36 (.bytes [])).uF m 6 (.bool j)).uI d []).uF m 37 (.obj d)).A4 m 36=some (.bytes []):=fn rfl (fn rfl fe:(((T.uN m 540).uF m 36 (.bytes [])).uF m 6 (.bool j)).A4 m 36=_);haveI L:(((((T.uN m 540).uF m 36 (.bytes [])).uF m 6 (.bool j)).uI d []).uF m 37 (.obj d)).cls m=some 540:=(ce:(T.uN m 540).cls m=_);generalize ((((T.uN m 540).uF m 36 (.bytes [])).uF m 6 (.bool j)).uI d []).uF m 37 (.obj d)=TB at k2 L U;haveI y:=k2.A4 s (by rw[o];exact nofun) (λw=>w);exists k2.cls _ _ o,C _;haveI k3:KP (MF s) TB (TB.uF s 49 (.obj m)):=KP.BK (.inl rfl);haveI B:=(k1.trans (k2.mono λZ Z w=>w.elim)).trans k3;have g:∀{k x},Nat.beq k 49=false->T.A4 s k=x->(TB.uF s 49 (.obj m)).A4 s k=x:=λh w=>fn h ((congrFun y _).trans w);obtain ⟨x1,x2,x3,x4,x5,x6,x7,x8⟩:=F;exact hq _ B (λZ zK=>zK (g rfl x1) (g rfl x2) (V.pos n n2 B) (g rfl x3) (g rfl x4) (g rfl x5) (g rfl x6) (g rfl x7) (by rw[Hr rS];exact g rfl x8) ⟨m,fe,L,fo N U,N⟩)
 haveI R:∀l:Bool,l=Fh P A->AP I (Nu.drop 7) (BB Q) [some (.obj s),some (.obj p),some (.bytes t),some (.int b),some (.int e),some (.int A),some (.int W)]
   ((((((E.uF s 25 (.obj p)).uF s 8 (.obj Y)).uF s 43 (.bytes t)).uF s 44 (.int b)).uF s 45 (.int e)).uF s 46 (.bool l)):=by
  intro l M;refine⟨λg=>pO_i A0 ⟨C _,r l true M (?_:true=(decide (A=2)||P.CO))⟩,λg=>pO_i (fo n.symm (fo n.symm (fo n.symm (fo n.symm (fo n.symm (fo n.symm V.CO)))))) (pO_i A0 ⟨C _,r l P.CO M (?_:P.CO=(decide (A=2)||P.CO))⟩)⟩
  ·rw[show decide (A=2)=true from g];rfl
  ·rw[show decide (A=2)=false from g];rfl
 refine⟨λg=>pO_i (fo n.symm (fo n.symm (fo n.symm (fo n.symm (fo n.symm V.DE))))) (pO_i A0 ⟨C _,R (!P.DE) (?_:(!P.DE)=(decide (A=0)&&!P.DE))⟩),λg=>pO_i A0 ⟨C _,R false (?_:false=(decide (A=0)&&!P.DE))⟩⟩
 ·rw[show decide (A=0)=true from g];rfl
 ·rw[show decide (A=0)=false from g];rfl
end
section
variable{I:Ag}(S:AU I T9)
include S
def rT:Vc I 8 0 Qm Of:=λl Q L h=>by
 apply Bh h;clear h;intro s _ H;apply Bh H;clear H;intro p _ H;apply EZ H;clear H;intro t _ H;apply BN H;clear H;intro b _ H;apply BN H;clear H;intro e _ H;apply BN H;clear H;intro g _ H;apply BN H;clear H;intro K _ H;apply Fd H;clear H;intro m H;refine⟨rfl,?_⟩;refine H _ λY a P d C n N V A0 A G v c R=>?_;exists (⟨ZD,BC (Em (by decide) v) (Em c (by decide))⟩:word 2/\word m),(S.g 62 rfl);refine λZ B=>B 773 Y a P d C (by decide) (by decide) n N V A0 A G (rN m) λM k1 f=>⟨.inl rfl,?_⟩;haveI X:=k1.cls _ _ C;exists X,Bf true,X,Bf true,X,Bf true;have F:=((f.up n N (f:=50) (v:=.int m) (.inl (by decide))).up n N (f:=51) (v:=.bool (decide (K=1))) (.inl (by decide))).up n N (f:=52) (v:=.none) (.inl (by decide));refine Ht F.scan λr D o j E=>?_;exact R _ (((k1.trans (KP.BK (.inl rfl))).trans (KP.BK (.inl rfl))).trans (KP.BK (.inl rfl))) (λZ B=>B X F.prog F.AG F.pv F.text F.FJ F.en F.Fg F.GB F.width ⟨r,D,o,j⟩ ⟨fn rfl (fn rfl fe),fn rfl fe,fe⟩ (λw=>w))
def rU:Vc I 6 0 Qn Oh:=λc Q M h=>by
 apply Bh h;clear h;intro s _ H;apply Bh H;clear H;intro p _ H;apply EZ H;clear H;intro t _ H;apply BN H;clear H;intro b _ H;apply BN H;clear H;intro e _ H;apply Fd H;clear H;intro a H;refine⟨rfl,?_⟩;refine H _ λY A P g C n N V A0 D G T=>?_;exists (S.g 62 rfl);refine λZ B=>B 801 Y A P g C (by decide) (by decide) n N V A0 D G (by decide) λv k1 F=>⟨.inl rfl,?_⟩;haveI X:=k1.cls _ _ C;intro d R;have K:KP (MF s) v (v.uI d []):=KP.Gq (.inr R.2.2.2.1);exists X,Bf true;haveI m:EO 1 (v.uI d []) s p Y A P t b e (Fh P a) (GF P a):=(λZ B=>B F.prog F.AG (F.pv.pos n N K) F.text F.FJ F.en F.Fg F.GB F.width F.scan);have f:=m.up n N (f:=21) (v:=.obj d) (.inr rfl);refine Ht f.scan λr E o j L=>?_;exact T _ ((k1.trans K).trans (KP.BK (.inl rfl))) (λZ B=>B X f.prog f.AG f.pv f.text f.FJ f.en f.Fg f.GB f.width ⟨r,E,o,j⟩ ⟨⟨d,fe,A6 rfl⟩,Nat.zero_le _⟩ (λw=>w))
def rV:Vc I 7 1 XF T7:=λargs Qa D h=>by
 apply Bh h;clear h;intro p _ H;apply EZ H;clear H;intro t _ H;apply BN H;clear H;intro b _ H;apply BN H;clear H;intro e _ H;apply BN H;clear H;intro A _ H;apply BN H;clear H;intro F _ H;apply Fd H;clear H;intro m H;refine⟨rfl,?_⟩;refine H _ λC w P pf V K TA O Q E d y ht T U x X l Y=>?_;unfold MJ at l Y;refine Ai (λg=>Ad g y) λZ=>?_;exists (S.g 78 rfl);intro s f;have k0:KP (λp a=>MD p a\/D.fresh a) D (D.uN s 773):=KP.new f.1;refine Cp (V.nw f 773) λn1 n2 L G=>?_;haveI M:0<=m:=Em (by decide) E;refine λZ B=>B C w P pf ce n1 n2 L TA ((G _).trans O) ((G _).trans Q) M d λG9 k1 j=>⟨rfl,?_⟩;exists j.cls,BU S.m (Hk (.s (decide (F=1)) m)).2.2.2.2.2,(S.g 76 rfl);refine(λZ B=>B _ p C w P t b e _ _ _ j K ht T U x X (Ae 0x82ac460084008040 [] [_]) (A3 0x11f40865588c01080b1904300840 [] [_] d) (λZ=>by exact Ae 0x82ac460084010040 [] [_]) (λEe k2 o=>⟨.inl rfl,?_⟩));generalize Jf P (.s (decide (F=1)) m) (max 2 (2*m)).toNat (Fh P A) (GF P A) t b e (Ci t) (Cv t)=R at l Y o;haveI A0:=ZE f k0 k1 k2;obtain ⟨_,_,n⟩:=o.GC;cases v:R.best with
 | none=>
  rw[v] at n l;exact pO_i n (CT (l Ee A0.drop rfl))
 | some c=>
  rw[v] at n Y;obtain ⟨bl,r,W,b3,b4,N⟩:=n;refine pO_i r (BW ?_);exists r,(⟨ZD,BC (Em (by decide) M) (Em d (by decide))⟩:word 2/\word m),Int.mul_nonneg (by decide) M,(BC (A3 0xb1180227735940061ac0208040 [] [_] E) (A3 0x17dcd650018623004b1904300840 [] [_] d):word (2*m)),W,rm (BE N (AN rfl));exact λxa hx=>Y _ xa _ (A0.trans (KP.AX (.inr hx.2.1))).drop rfl (AY.trans (AO some List.map_take.symm))
def rW:Vc I 5 1 XG T8:=λargs Qa D h=>by
 apply Bh h;clear h;intro p _ H;apply EZ H;clear H;intro t _ H;apply BN H;clear H;intro b _ H;apply BN H;clear H;intro e _ H;apply Fd H;clear H;intro A H;refine⟨rfl,?_⟩;refine H _ λC E P Y V K M F G r Q A0 n L T=>?_;unfold Oi at T;exists (S.g 80 rfl);intro s f;haveI X:KP (λp a=>MD p a\/D.fresh a) D (D.uN s 801):=KP.new f.1;refine Cp (V.nw f 801) λU O v g=>?_;refine λZ B=>B C E P Y ce U O v M ((g _).trans F) ((g _).trans G) λG9 k1 j=>⟨rfl,?_⟩;exists j.cls,BU S.m (Hk .i).2.2.2.2.2,(S.g 76 rfl);refine(λZ B=>B _ p C E P t b e _ _ _ j K r Q A0 n L (Ae 0x202008000 [] []) (Ae 0x8fa04308000 [] []) (λw=>Ad rfl w) (λEe k2 c=>⟨.inl rfl,?_⟩));generalize Jf P .i 1 (Fh P A) (GF P A) t b e (Ci t) (Cv t)=R at T c;haveI N:=ZE f X k1 k2;obtain ⟨⟨d,l,m⟩,o⟩:=c.GC;exists l,m,(show (tt R.ids).length<64 by rw[O9];exact Nat.lt_of_le_of_lt o (by decide));haveI y:(tt R.ids).map (·.1)=R.ids:=by unfold tt;rw[List.map_map];exact List.map_id'' (λZ=>rfl) _
 exact λx W=>T _ x (N.trans (KP.AX (.inr W.2.1))).drop (AY.trans (by rw[y]))
end
noncomputable def IY:List AV:=[.int 0,.int 0,.int 0,.int 0,.bool false]
noncomputable def IZ (n:Nat)(d:List AV)(a:List AV):Option (List AV):=if a.length<=n/\n<=a.length+d.length then some (a++d.drop (a.length+d.length-n)) else none
def ZF (S:AH)(i:Addr)(R:Ap):AH:=((((((S.uF i 1 (.int R.op)).uF i 2 (.int R.out)).uF i 3 (.int R.arg)).uF i 4 (.int R.B1)).uF i 5 (.int R.Ax)).uF i 6 (.bool R.fold)).uF i 7 (.bool false)
def MK:List AV->PE->AH->Prop:=λa Q S=>∃i R,IZ 7 IY a=some [.obj i,.int R.op,.int R.out,.int R.arg,.int R.B1,.int R.Ax,.bool R.fold]/\R.last=false/\S.cls i=some 189/\Q .none (ZF S i R)
def Bp(S:AH)(a:Addr):Prop:=∀f v,S.A4 a f=some v->v.tf
def Bp.uF(h:Bp σ b)(H:v.tf):Bp (σ.uF a f v) b:=λg u e=>by
 rw[DO] at e;split at e
 ·cases e;exact H
 ·exact h g u e
def Bp.kp{M:Pl->Addr->Prop}(h:Bp S a)(k:KP M S E)(c:S.cls a≠none)(n:¬M .f a):Bp E a:=λg u e=>by rw[k.A4 a c n] at e;exact h g u e
def AH.tf.uL{S:AH}(h:S.tf){a:Addr}{l:List AV}(H:∀v∈l,v.tf):(S.uL a l).tf:=⟨h.1,λb m q=>by
 haveI q:(if b=a then some l else S.A1 b)=some m:=q;split at q
 ·cases q;exact H
 ·exact h.2.1 b m q,h.2.2.1,h.2.2.2⟩
def Gv(l:List Int):∀v∈l.map AV.int,v.tf:=λv h=>by
 refine AJ (DT.1 h) λx Z A=>?_;subst A;trivial
def ZG(L:∀i,IZ 7 IY (.obj i::A)=some [.obj i,.int R.op,.int R.out,.int R.arg,.int R.B1,.int R.Ax,.bool R.fold])(H:R.last=false)(h:∀E i,KP M0 S E->S.fresh i->Bs E i R->Bp E i->E.A1=S.A1->Q (.obj i) E):CN MK 189 A Q S:=by
 intro i fi;refine⟨i,R,L i,H,ce,rfl,?_⟩;haveI a:=KP.new (M:=λp a=>M0 p a\/S.fresh a) (σ:=S) (c:=189) fi.1;haveI f:∀{t:AH} {g:Nat} {v:AV},KP (λp a=>M0 p a\/S.fresh a) S t->KP (λp a=>M0 p a\/S.fresh a) S (t.uF i g v):=λk=>k.trans (KP.BK (.inl (.inr fi)));refine h _ i (f (f (f (f (f (f (f a))))))).drop fi ?_ ?_ rfl
 ·refine(λZ B=>B (ce:(S.uN i 189).cls i=_) ?_ ?_ ?_ ?_ ?_ ?_ (H▸fe))<;>repeat first| exact fe| refine fn rfl ?_
 ·haveI T:Bp (S.uN i 189) i:=λg v e=>by exact nO e (show (S.uN i 189).A4 i g=none from A6 rfl)
  unfold ZF
  repeat' (first| exact T| refine Bp.uF ?_ trivial)
noncomputable def FN:Ap:=⟨6,0,0,0,0,false,false⟩
def ML:List AV->PE->AH->Prop:=
 aO λp=>aN λQ I=>I.cls p=some 217/\(∀f,I.A4 p f=none)/\∀S C i,KP (MF p) I S->I.fresh C->I.fresh i->i≠p->S.A1 C=some [.obj i]->Bs S i FN->Bp S i->Bp S p->
   S.A4 p 8=some (.obj C)->S.A4 p 9=some (.int 0)->S.A4 p 10=some (.int 0)->S.A4 p 11=some (.bool false)->S.A4 p 12=some (.bool false)->S.A4 p 13=some (.bool false)->S.A4 p 16=some (.bytes [])->S.A4 p 17=some (.bool false)->S.A4 p 18=some .none->Q .none S
noncomputable def Gw:Int->List Int->List Int
 | _,[]=>[]
 | n,b::bs=>n.fmod b::Gw (n.fdiv b) bs
def rX:Gw n (b::B)=n.fmod b::Gw (n.fdiv b) B:=rfl
def rY:Gw n []=[]:=rfl
def TC:List AV->PE->AH->Prop:=
  aN λQ I=>∀S r,KP M0 I S->I.fresh r->S.A1 r=some (([1,1,1,5,2,3,4]:List Int).map .int)->Q (.obj r) S
def TG:List AV->PE->AH->Prop:=
  aN λQ I=>∀S r,KP M0 I S->I.fresh r->S.A1 r=some (([155946,7,7,7,0,322,5]:List Int).map .int)->Q (.obj r) S
def TH:List AV->PE->AH->Prop:=
 aI λn=>aO λt=>aN λQ S=>∃B:List Int,S.A1 t=some (B.map .int)/\B.length<=100/\(∀b∈B,1<=b/\b<=1000)/\∀E r,KP M0 S E->(S.tf->E.tf)->S.fresh r->E.A1 r=some ((Gw n B).map .int)->Q (.obj r) E
def Gx:Tb:=(16,CN MK 189)::(19,CN ML 217)::(81,T7)::(82,T8)::(83,TC)::(84,TG)::(85,TH)::T9
section
variable{I:Ag}
def rZ(a:List AV)(Q:PE)(S:AH)(h:MK a Q S):∃A,IZ 7 IY a=some A/\Dz I 0 Qg A Q S:=by
 obtain ⟨i,R,L,M,H,h⟩:=h;refine⟨_,L,?_⟩;exists H,Bf true,H,Bf true,H,Bf true,H,Bf true,H,Bf true,H,Bf true,H,Bf true;exact h
def rf:Vc I 0 0 XH TC:=λA Q S h=>by
 apply DM h;clear h;intro h;exact⟨rfl,AN rfl,λa H=>h _ a (KP.AX (.inr H.2.1)) H AY⟩
def rh:Vc I 0 0 XI TG:=λA Q S h=>by
 apply DM h;clear h;intro h;exact⟨rfl,AN rfl,λa H=>h _ a (KP.AX (.inr H.2.1)) H AY⟩
def ri(S:AH)(n:Int)(B:List Int)(v d:Addr)(i:Nat)(L:AE)(t:AH)(l:Prop):Prop:=
 ∀(m:Int) (x:Option AV) (f:List Int),L=[some (.int m),some (.obj v),some (.obj d),x]->KP (λp a=>M0 p a\/S.fresh a) S t->t.A1 d=some (f.map .int)->f.length<=i->f++Gw m (B.drop i)=Gw n B->(S.tf->t.tf)->l
def rj(S:AH)(n:Int)(H:List Int)(B d:Addr)(i:Nat)(L:AE)(t:AH):Prop:=Ch (ri S n H B d i L t)
def rk{f:List Int}{n:Int}:∀v∈f.map AV.int++[.int n],v.tf:=λv h=>(Bq.1 h).elim (Gv _ v) λq=>Az.1 q▸trivial
def rn{b:Int}(h:1<=b/\b<=1000):b≠0/\b.natAbs<1073741824:=by omega
def rp:Vc I 2 2 XJ TH:=λa Q S h=>by
 apply BN h;clear h;intro n _ h;apply Cu h;clear h;intro A h;refine⟨rfl,?_⟩;refine Ht h λB e M E h=>?_;refine A8 (AN rfl) λd hd=>?_;haveI nd:A≠d:=BQ hd e;refine pO_i (Er (lo nd e)) ?_;refine DY (rj S n B A d) (λZ D=>D n none [] rfl (KP.AX (.inl (.inr hd))) AY (Nat.le_refl 0) rfl (λw=>w.uL (λv p=>by cases p))) ?_ ?_ ?_
 ·intro i L W w;refine w _ λm x f o T Z Z Z Z=>?_;rcases o with rfl
  exact T.drop.A1 _ _ e (λw=>w)
 ·intro i v L W K F w p G _ _ _;refine w _ λm x f Y T c A0 H t=>?_;rcases Y with rfl
  rw[Bb] at p;refine AJ (BY.1 p) λb g C=>?_;subst C;haveI j:=rn (E b (Bj g));haveI H:=(F9 g)▸H;haveI H:f++(m.fmod b::Gw (m.fdiv b) (B.drop (i+1)))=Gw n B:=H;rw[Ak] at F;refine⟨_,rfl,?_⟩;exists c,j.1,c,rm (BE A0 (BE (Nat.le_of_lt F) (BE M (AN rfl)))),.inl rfl;refine A8 j ?_;exact G _ _ (λZ D=>D _ _ (f++[m.fmod b]) rfl (T.trans (KP.AX (.inl (.inr hd)))) (AY.trans (by rw[CX];rfl)) (by rw[CE];exact Nat.succ_le_succ A0) (by rw[<-H,List.append_assoc];rfl) (λw=>(t w).uL rk))
 ·intro L W w;refine w _ λm x f y T c A0 H t=>?_;rcases y with rfl
  rw[Ak,Fx] at H;exact h W d T.drop t hd (by rw[c,<-H];exact AO (λl=>some (List.map AV.int l)) (GR f).symm)
end
section
variable{I:Ag}(S:AU I Gx)
include S
def rq:Vc I 1 0 Wa ML:=λd Q D h=>by
 apply Cu h;clear h;intro p h;refine⟨rfl,?_⟩;refine C9 h λA0 c h=>?_;exists (S.g 16 rfl);refine ZG (R:=FN) (λi=>rfl) rfl λA i k1 fi C B M=>A8 (AN rfl) λY BA=>?_;have k2:KP (λp a=>M0 p a\/D.fresh a) D (A.uL Y [.obj i]):=(k1.mono λZ Z w=>w.elim).trans (KP.AX (.inr BA.2.1));haveI G:=k1.live _ BA;have H:=k2.cls _ _ A0;haveI n:i≠p:=λw=>by have:=fi.1;exact nO (w▸A0) this
 have E:=k2.drop.A4 p (by rw[A0];exact nofun) (λw=>w);haveI r:Bs (A.uL Y [.obj i]) i FN:=C.uL;haveI T:Bp (A.uL Y [.obj i]) i:=B;haveI L:(A.uL Y [.obj i]).A1 Y=some [.obj i]:=AY;clear BA;generalize A.uL Y [.obj i]=t at k2 H E r T L⊢;have N:Bp t p:=λg v e=>by rw[E,c] at e;cases e
 exists H,Bf true,H,Bf true,H,Bf true,H,Bf true,H,Bf true,H,Bf true,H,Bf true;refine A8 (AN rfl) λM f=>?_;haveI nil:Y≠M:=BQ (A7:=t) f L;exists H,Bf true,H,Bf true,H,Bf true,H,Bf true;haveI z:∀{x:AH} {g:Nat} {v:AV},KP (MF p) t x->KP (MF p) t (x.uF p g v):=λk=>k.trans (KP.BK (.inl rfl));haveI K:KP (MF p) t (((((((((((t.uF p 8 (.obj Y)).uF p 9 (.int 0)).uF p 10 (.int 0)).uF p 11 (.bool false)).uF p 12 (.bool false)).uF p 13 (.bool false)).uF p 14 (.bool false)).uL M []).uF p 15 (.obj M)).uF p 16 (.bytes [])).uF p 17 (.bool false)|>.uF p 18 .none):=
  z (z (z (z (KP.trans (z (z (z (z (z (z (z KP.refl))))))) (KP.AX (.inr f.2.1))))))
 refine h _ Y i ((k2.mono λZ Z w=>w.imp (λw=>w.elim) id).trans (K.mono λZ Z w=>.inl w)).drop G fi n (lo nil L:(t.uL M []).A1 Y=_) (r.kp K n) (T.kp K (by rw[r.cls];exact nofun) n) ?_ ?_ ?_ ?_ ?_ ?_ ?_ ?_ ?_ ?_
 ·repeat' (first| exact N| refine Bp.uF ?_ trivial| refine Bp.uF (σ:=AH.uL _ _ _) (?_:Bp (((((((t.uF p 8 (.obj Y)).uF p 9 (.int 0)).uF p 10 (.int 0)).uF p 11 (.bool false)).uF p 12 (.bool false)).uF p 13 (.bool false)).uF p 14 (.bool false)) p) trivial)
 all_goals repeat first| exact fe| refine fn rfl ?_
end
noncomputable def Gy:Int×List Int×Int×List Int->AV
 | (n,h,f,i)=>.AA [.int n,.AA (h.map .int),.int f,.AA (i.map .int)]
def desc (X:PC)(n:Int):Int×List Int×Int×List Int:=if n= -1 then(-1,[],0,[]) else if n= -2 then(-2,[],64,[]) else(n,(tabAt X n).1,(tabAt X n).2.1,(tabAt X n).2.2)
noncomputable def GG (P:AM)(K:Int)(c:List Int):List Int->PC->Int->List (Int×List Int×Int×List Int)
 | [],_,_=>[]
 | o::os,X,n=>desc (D4 P K c X n o).1 (D4 P K c X n o).2::GG P K c os (D4 P K c X n o).1 (D4 P K c X n o).2
def TJ{P:AM}{K:Int}{c O:List Int}{o n:Int}{X:PC}:GG P K c (o::O) X n=desc (D4 P K c X n o).1 (D4 P K c X n o).2::GG P K c O (D4 P K c X n o).1 (D4 P K c X n o).2:=rfl
noncomputable def KO (r:Bool)(t:List Int)(a:Int):List Int:=(if r=true then(t.take a.toNat).reverse else t.drop a.toNat)++[256]
def MN (P:AM)(K:Int)(c:List Int)(t:List Int)(a:Int)(l:Bool):List (Int×List Int×Int×List Int):=
 desc (Eg P K ⟨[],[]⟩ t a l).1 (Eg P K ⟨[],[]⟩ t a l).2::GG P K c (KO P.rev t a) (Eg P K ⟨[],[]⟩ t a l).1 (Eg P K ⟨[],[]⟩ t a l).2
def ru(p:Addr)(w:Int)(t:List Int)(a:Int)(l:Bool)(Q:PE)(S:AH)(m:Prop):Prop:=
 ∀C A P I c,(BJ S p C A P)->(P.Ok)->(S.A4 p 18=some (.obj I))->(S.A1 I=some (c.map AV.int))->(c.length<=1000)->(c.Pairwise (· < ·))->((∃r,c=0::r))->((∀o∈t,0<=o/\o<256))->(t.length<=20)->(0<=a)->(a<=t.length)->(∀E r,KP MA S E->S.fresh r->E.A1 r=some ((MN P w c t a l).map Gy)->Q (.obj r) E)->m
def rx(p:Addr)(w:Int)(t:List Int)(a:Int)(l:Bool)(Q:PE)(S:AH):Prop:=Ch (ru p w t a l Q S)
def TK:List AV->PE->AH->Prop:=
 aO λp=>aI λw=>aY λt=>aI λa=>aB λl=>aN λQ S=>rx p w t a l Q S
def KQ (P:AM)(w:Int)(t:List Int)(a A:Int):Option (List Int):=
 if w=2 then some (Oi P t a t.length A (Ci t) (Cv t)) else MJ P t a t.length A w 2 (Ci t) (Cv t)
def ry(p:Addr)(w:Int)(t:List Int)(a:Int)(A:Int)(Q:PE)(I:AH)(m:Prop):Prop:=
 ∀C B P d,(BJ I p C B P)->(P.Ok)->(P.rev=false)->(I.A4 p 16=some (.bytes []))->(I.A4 p 17=some (.bool d))->(room t.length)->(0<=a)->(a<=t.length)->(t.length<=2)->((∀S,KP MD I S->KQ P w t a A=none->Q .none S))->((∀S r l,KP MD I S->KQ P w t a A=some l->S.A1 r=some (l.map .int)->Q (.obj r) S))->m
def rz(p:Addr)(w:Int)(t:List Int)(a:Int)(A:Int)(Q:PE)(S:AH):Prop:=Ch (ry p w t a A Q S)
def TL:List AV->PE->AH->Prop:=
 aO λp=>aI λw=>aY λt=>aI λa=>aI λA=>aN λQ S=>rz p w t a A Q S
def KR:Tb:=(89,TK)::(90,TL)::Gx
def BZ.ZH{I:AH}{r p C:Addr}{a:List Addr}{P:AM}{K:Int}{c:Addr}{o:List Int}{D t d f:Addr}{S W:List Addr}{X:PC}(h:BZ I r p C a P K c o D t d f S W X){n:Int}(H:Ed X n):
  I.A4 (adr d f S n) 19=some (.int (desc X n).1)/\I.A4 (adr d f S n) 15=some (.AA ((desc X n).2.1.map .int))/\I.A4 (adr d f S n) 20=some (.int (desc X n).2.2.1)/\I.A4 (adr d f S n) 21=some (.AA ((desc X n).2.2.2.map .int)):=by
 rcases H with rfl| rfl| H
 ·refine AW h.da λw q=>?_;exact⟨q.num,q.GL,q.flag,q.ids⟩
 ·refine AW h.fu λw q=>?_;exact⟨q.num,q.GL,q.flag,q.ids⟩
 ·refine BX (h.OS H) λw Z q Z=>?_;haveI e:desc X n=(n,(tabAt X n).1,(tabAt X n).2.1,(tabAt X n).2.2):=by unfold desc;rw[A5 (by exact A3 0x469020009cc2802012c0200041 [_] [_] H),A5 (by exact A3 0x469040009cc2802012c0200041 [_] [_] H)]
  (refine(e).symm▸?_;try (with_reducible rfl))
  exact⟨q.num,q.GL,q.flag,q.ids⟩
set_option genInjectivity false in
set_option genSizeOf false in
structure MO(Q:PE) where
 (σ:AH) (r p il cl dk ds da fu fl:Addr) (as:List Addr) (P:AM) (Jg:Int) (cs t:List Int) (a:Int) (loose:Bool) (all:List (Int×List Int×Int×List Int))
 K:P.Ok
 V:BJ σ p il as P
 E1:σ.A1 cl=some (cs.map AV.int)
 TM:cs.length<=1000
 TN:cs.Pairwise (· < ·)
 TO:∃r,cs=0::r
 ZI:σ.fresh fl
 hq:∀Aq,KP MA σ Aq->Aq.A1 fl=some (all.map Gy)->Q (.obj fl) Aq
namespace MO
variable{Q:PE}(x:MO Q)
def E2(i:Nat)(n:Int)(X:PC)(S w:List Addr)(f:List (Int×List Int×Int×List Int))(t:AH)(l:Prop):Prop:=
 (KP (λp a=>MA p a\/x.σ.fresh a) x.σ t)->(BZ t x.r x.p x.il x.as x.P x.Jg x.cl x.cs x.dk x.ds x.da x.fu S w X)->(t.AL x.ds≠none)->(Ed X n)->(X.tab.length<=i+1)->(WB X i)->(t.A1 x.fl=some (f.map Gy))->l
def St(i:Nat)(n:Int)(X:PC)(S w:List Addr)(f:List (Int×List Int×Int×List Int))(t:AH):Prop:=Ch (x.E2 i n X S w f t)
section
variable{x}(zh:x.St i n X ss ws fd A7)
def St.kp:=zh _ λz Z Z Z Z Z Z=>z
def St.cv:=zh _ λZ z Z Z Z Z Z=>z
def St.dd:=zh _ λZ Z z Z Z Z Z=>z
def St.vv:=zh _ λZ Z Z z Z Z Z=>z
def St.hl:=zh _ λZ Z Z Z z Z Z=>z
def St.hw:=zh _ λZ Z Z Z Z z Z=>z
def St.hf:=zh _ λZ Z Z Z Z Z z=>z
end
noncomputable abbrev Lc (n:Int)(S:List Addr)(m8 m9:Option AV):AE:=[some (.obj x.p),some (.int x.Jg),some (.bytes x.t),some (.int x.a),some (.bool x.loose),some (.obj x.r),some (.obj (adr x.da x.fu S n)),some (.obj x.fl),m8,m9]
def JF(P z:Addr)(sg:List Int)(i:Nat)(L:AE)(t:AH)(l:Prop):Prop:=
 ∀n X S w f m,x.St i n X S w f t->t.A1 z=some (sg.map .int)->f++GG x.P x.Jg x.cs (sg.drop i) X n=x.all->L=x.Lc n S (some (.obj P)) m->l
def A0(S z:Addr)(sg:List Int)(i:Nat)(L:AE)(t:AH):Prop:=Ch (x.JF S z sg i L t)
variable{x}{i:Nat}{n:Int}{X:PC}{ss ws:List Addr}{fd:List (Int×List Int×Int×List Int)}{A7 CH:AH}
def St.Ao(s:x.St i n X ss ws fd A7)(k:KP M0 A7 CH):x.St i n X ss ws fd CH:=
 (λZ B=>B (s.kp.trans (k.mono λZ Z w=>w.elim)) (s.cv.kp k (λZ w=>w) (λw=>w) (λw=>w) (λw=>w) (λZ Z w=>w)) (JX k s.dd (λw=>w)) s.vv s.hl s.hw (k.A1 _ _ s.hf (λw=>w)))
def St.put(s:x.St i n X ss ws fd A7)(e:(fd++[d]).map Gy=l):x.St i n X ss ws (fd++[d]) (A7.uL x.fl l):=by
 have K:KP (λp a=>match p with| .l=>a=x.fl| _=>False) A7 (A7.uL x.fl l):=KP.AX (.inl rfl);have N:∀y l,x.σ.A1 y=some l->y≠x.fl:=λy l h w=>by have:=x.ZI.2.1;rw[<-w,h] at this;cases this
 exact(λZ B=>B (s.kp.trans (KP.AX (.inl (.inr x.ZI)))) (s.cv.kp K (λZ w=>w) (λw=>N _ _ x.E1 w) (λw=>N _ _ x.V.A1 w) (λw=>w) (λZ Z w=>w)) (JX K s.dd (λw=>w)) s.vv s.hl s.hw (by rw[e];exact AY))
end MO
section
variable{I:Ag}(S:AU I Gx)
include S
def s7:Vc I 5 0 XK TL:=λj Q A0 h=>by
 apply Bh h;clear h;intro p _ H;apply BN H;clear H;intro W _ H;apply EZ H;clear H;intro t _ H;apply BN H;clear H;intro a _ H;apply Fd H;clear H;intro f H;refine⟨rfl,?_⟩;refine H _ λC A P d V K G w F c L D o l Y=>?_;unfold KQ at l Y;haveI m:(0:Int)<=t.length:=Ae 0x5940100041 [_] [];refine Ai (λg=>?_) (λg=>?_)
 ·rw[A6 g] at l Y;exact A8 c (sp_i (S.g 82 rfl) (λZ B=>B C A P d V K G w F c L D (Ae 0xb2802500441 [_] []) (AK 0xb4080011401580400204000441 [_] [_] L o) (λE r k e=>Y E r _ k rfl e)))
 ·rw[A5 g] at l Y;exact A8 c (sp_i (S.g 81 rfl) (λZ B=>B C A P d V K G w F (Ae 0x2c4008000 [] []) (Ae 0xb1904310000 [] []) g c L D (Ae 0xb2802500441 [_] []) (AK 0xb4080011401580400204000441 [_] [_] L o) l Y))
def ZJ{Q:PE}{x:MO Q}{P:Addr}{sg:List Int}{n:Int}{X:PC}{U W:List Addr}{d:Int×List Int×Int×List Int}{t:AH}(s:x.St 0 n X U W [d] t)(E:t.A1 P=some (sg.map .int))(e:sg.length<=20)(s8:∀o∈sg,0<=o/\o<256)(g:d::GG x.P x.Jg x.cs (sg++[256]) X n=x.all):
  AP I (Qo.drop 5) (BB Q) (x.Lc n U (some (.obj P)) none) t:=by
 haveI G:AU I OT:=S.dr 34;haveI V:AU I M6:=G.dr 2;refine A8 (AN rfl) λy hy=>?_;have k1:KP M0 t (t.uL y [.int 256]):=KP.AX (.inr hy.2.1);exists k1.A1 _ _ E (λw=>w),AY;refine A8 (by unfold room;simp;exact A3 0x47a11f90600a28000441 [_] [] e) λz H=>?_;haveI s6:=(s.Ao k1).Ao (KP.AX (l:=sg.map .int++[.int 256]) (.inr H.2.1));haveI M:((t.uL y [.int 256]).uL z (sg.map .int++[.int 256])).A1 z=some ((sg++[256]).map .int):=by rw[AY];simp
 haveI nz:z≠x.fl:=C1 (BQ H (s.Ao k1).hf);exists Er M;refine DY (x.A0 P z (sg++[256])) (λZ B=>B _ _ _ _ _ _ s6 M g rfl) ?_ ?_ ?_
 ·intro i L t a;refine a _ λn X U W f m s H Z Z=>?_;exact H
 ·intro i va L t Ka F a A kn _ _ _;refine a _ λn X U W f m s H h y2=>?_;rcases y2 with rfl
  rw[Bb] at A;refine AJ (BY.1 A) λo l Br=>?_;subst Br;rw[Ak] at F;haveI p:i<=sg.length:=by simp at F;exact A3 0x2021005280802100482 [_,_] [] F
  rw[F9 l,TJ] at h;refine⟨_,rfl,?_⟩;haveI j:=s.hl;exists s.cv.Bd.cls,BU S.m (by decide+kernel:Am 479 20=some 48);refine sp_i (V.g 48 rfl) (λZ B=>B x.p x.il x.as x.P x.Jg x.cl x.cs x.dk x.ds x.da x.fu U W X n i s.cv x.K rfl s.vv (CA 0x9f0001450010a0211050808041004c3 [_,_,_] [] e p j) s.dd s.hw (AK 0x206410c01450010a02100482 [_,_] [] e p) (λA0=>⟨x.TM,x.TN,?_⟩) (λNL OR IQ K c v D r N=>?_))
  ·refine AW x.TO λrr hr=>?_;refine⟨0,rr,hr,?_⟩;rcases Bq.1 (Bj l) with w| w
   ·exact(s8 o w).1
   ·exact Ad (Az.1 w) A0
  generalize D4 x.P x.Jg x.cs X n o=y at h c v D r⊢;haveI R:x.St (i+1) y.2 y.1 OR IQ f NL:=(λZ B=>B (s.kp.trans (K.mono λZ Z w=>.inl w)) c N v (AK 0x8404080802100508080211050808041004c3 [_,_,_] [] j r) D (K.A1 _ _ s.hf (λw=>w)));haveI s9:=K.A1 _ _ H (λw=>w);refine Cp (c.ZH v) λT Y C e4=>?_;haveI sA:room (f.map Gy).length:=by
   haveI:=AO List.length h;haveI g:=AO List.length g;haveI wl:∀(O:List Int) (X:PC) (n:Int),(GG x.P x.Jg x.cs O X n).length=O.length:=λO=>by
    induction O with
    | nil=>intro X n;rfl
    | cons o O ih=>intro X n;rw[TJ,List.length_cons,ih];rfl
   rw[CE] at this;rw[List.length_cons,wl,CE] at g;unfold room;rw[Ak];simp at g;exact CA 0x23d090083005140042a185020802a185010202008504 [_,_,_,_] [] e this g
  exists R.hf,T,Y,C,e4,AN rfl,R.hf,sA,.inl rfl;exact kn _ _ (λZ B=>B _ _ _ _ _ _ (R.put (d:=desc y.1 y.2) (by rw[CX];rfl)) ((BI nz).trans s9) ((List.append_assoc _ _ _).trans h) rfl)
 ·intro L t a;refine a _ λn X U W f m s H h y1=>?_;rcases y1 with rfl
  rw[Ak,Fx] at h;exact x.hq t s.kp.drop (by rw[s.hf,<-h];exact AO (λla=>some (la.map Gy)) (GR _).symm)
def sC:Vc I 5 5 Qo TK:=λargs Qa D h=>by
 apply Bh h;clear h;intro p _ H;apply BN H;clear H;intro W _ H;apply EZ H;clear H;intro t _ H;apply BN H;clear H;intro a _ H;apply O3 H;clear H;intro loose _ H;apply DM H;clear H;intro H;refine⟨rfl,?_⟩;refine H _ λC A P B E V K sD m TM TN TO ZK c L e R=>?_;have G:AU I OT:=S.dr 34;haveI sG:AU I M6:=G.dr 2;have v:room t.length:=by unfold room;exact A3 0x47a12010600a28000441 [_] [] c
 refine sp_i (G.g 44 rfl) λr fr=>?_;haveI k0:KP (λp a=>MA p a\/D.fresh a) D (D.uN r 479):=KP.new fr.1;haveI sH:KP M0 D (D.uN r 479):=KP.new fr.1;have n1:r≠p:=λw=>by have:=fr.1;exact nO (w▸V.cls) this
 haveI n2:r∉A:=λL=>by
  refine AW (List.getElem?_of_mem L) λja n=>?_;haveI hl:ja<P.AG.length:=by rw[<-V.len];exact(D6.1 n).1
  have:=(V.inst ja r _ n (Aw hl)).cls;exact nO this fr.1
 haveI gp:(D.uN r 479).A4 p 18=D.A4 p 18:=by
  refine(?_:(if p=r then none else D.A4 p 18)=_);rw[A5 (C1 n1)]
 refine⟨rfl,by exact A6 rfl,C,A,P,B,E,V.kp sH (λw=>w) (λw=>w) (λZ Z w=>w),n1,n2,by rw[gp];exact sD,m,λG9 Q X d Y k1 O sI=>⟨rfl,?_⟩⟩;have sJ:KP (λp a=>MA p a\/D.fresh a) D G9:=k0.tr k1 λp a w=>by cases p<;>first| (haveI w:a=r:=w;rw[w];exact .inr fr)| exact w.elim
 exists O.Bd.cls,BU S.m (by decide+kernel:Am 479 19=some 47);refine sp_i (sG.g 47 rfl) (λZ F=>F p C A P W B E Q X d Y [] [] ⟨[],[]⟩ 0 O K (AN rfl) sI (λZ h=>by cases h) v L e (λM sL sM k2 j N w2 l2 d2=>?_));unfold MN at R;generalize Eg P W ⟨[],[]⟩ t a loose=y at R j N w2 l2⊢;have T:=sJ.trans (k2.mono λZ Z w=>.inl w);refine Cp (j.ZH N) λe1 e2 e3 e4=>?_;exists e1,e2,e3,e4,AN rfl,AN rfl;intro f A0;let x:MO Qa:=⟨D,r,p,C,B,Q,X,d,Y,f,A,P,W,E,t,a,loose,_,K,V,m,TM,TN,TO,T.live _ A0,λAq k ea=>R Aq f k (T.live _ A0) ea⟩
 haveI s2:x.St 0 y.2 y.1 sL sM [desc y.1 y.2] (M.uL f [Gy (desc y.1 y.2)]):=by
  haveI k3:KP M0 M (M.uL f [Gy (desc y.1 y.2)]):=KP.AX (.inr A0.2.1);exact(λZ F=>F (T.trans (k3.mono λZ Z w=>w.elim)) (j.kp k3 (λZ w=>w) (λw=>w) (λw=>w) (λw=>w) (λZ Z w=>w)) (JX k3 d2 (λw=>w)) N (l2) w2 AY)
 haveI Sz:=v;unfold room at Sz;have wa:word a:=BC (A3 0x2c0227735940061ac0200040 [] [_] L) (AK 0x5f7359400618048a00015940100841 [_] [_] c e);haveI rd:room (t.drop a.toNat).length:=by unfold room;rw[List.length_drop];exact A3 0x47a1201069280400a28000441 [_] [_] c
 have rt:room (t.take a.toNat).length:=by unfold room;rw[List.length_take];exact A3 0x47a120106a004a01228000441 [_] [_] c
 exists L,wa,v,rd;intro sl TP;have l:=s2.Ao (KP.AX (l:=(t.drop a.toNat).map .int) (.inr TP.2.1));exists l.cv.Bd.pv.rev;refine Cf (λg=>?_) (λg=>?_)
 ·exists L,wa,v,rt;intro x1 hx;haveI s4:=l.Ao (KP.AX (l:=(t.take a.toNat).map .int) (.inr hx.2.1));exists AY,rm (by unfold room at rt;exact rt);intro z hz;haveI s5:=s4.Ao (KP.AX (l:=((t.take a.toNat).map AV.int).reverse) (.inr hz.2.1));exact ZJ S (x:=x) (sg:=(t.take a.toNat).reverse) s5 (by rw[AY,List.map_reverse]) (by rw[List.length_reverse,List.length_take];exact A3 0x4500a004a01228000441 [_] [_] c) (λo U=>ZK o (List.mem_of_mem_take (List.mem_reverse.1 U))) (by refine(?_:_=desc _ _::GG _ _ _ (KO P.rev t a) _ _);unfold KO;rw[A6 g])
 ·exact ZJ S (x:=x) (sg:=t.drop a.toNat) l AY (by rw[List.length_drop];exact A3 0x45009280400a28000441 [_] [_] c) (λo U=>ZK o (List.mem_of_mem_drop U)) (by refine(?_:_=desc _ _::GG _ _ _ (KO P.rev t a) _ _);unfold KO;rw[A5 g])
end
structure Ay where
 op:Int
 out:Int
 arg:Int
 B1:Int
 Ax:Int
 fold:Bool
noncomputable def Bo (r:Ay):AV:=.AA [.int r.op,.int r.out,.int r.arg,.int r.B1,.int r.Ax,.bool r.fold]
def sN(r:Ay)(l:Prop):Prop:=
 (0<=r.out/\r.out<3)->(0<=r.arg/\r.arg<64)->(r.op=1\/r.op=2\/r.op=3\/r.op=4\/r.op=5)->(r.op=1->0<=r.B1/\r.B1<=r.Ax/\r.Ax<=255)->l
def Cw(r:Ay):Prop:=Ch (sN r)
section
variable(zh:Cw r)
def Cw.out:=zh _ λz Z Z Z=>z
def Cw.arg:=zh _ λZ z Z Z=>z
def Cw.op:=zh _ λZ Z z Z=>z
def Cw.KS:=zh _ λZ Z Z z=>z
end
def Gz(h:CR k x y)(r:∀(j:Nat)(u v:AV),l[j]?=some u->m[j]?=some v->CR k u v):∀(j:Nat) (u v:AV),(x::l)[j]?=some u->(y::m)[j]?=some v->CR k u v:=λj u v a b=>by
 cases j with
 | zero=>cases a;cases b;exact h
 | succ j=>exact r j u v a b
def ZL{k:Nat}{m:List AV}:∀(j:Nat) (u v:AV),([]:List AV)[j]?=some u->m[j]?=some v->CR k u v:=λZ Z Z a Z=>nO a rfl
def sO(a b:Ay):CR 3 (Bo a) (Bo b):=by
 exact Gz trivial (Gz trivial (Gz trivial (Gz trivial (Gz trivial (Gz trivial ZL)))))
noncomputable def Cj:Ay:=⟨4,0,0,0,0,false⟩
def TQ:List AV->PE->AH->Prop:=
 aO λc=>aN λQ D=>∃I:List Int,D.A1 c=some (I.map .int)/\I.length=4/\
   ∀S (K l L o:Addr) (R r1:List Ay),KP M0 D S->S.A1 K=some [.obj l,.obj L,.obj o]->S.A1 l=some (R.map Bo)->S.A1 L=some (r1.map Bo)->S.A1 o=some ([Cj].map Bo)->(∀r∈R,Cw r)->(∀r∈r1,Cw r)->R.length<=2->r1.length<=2->Q (.obj K) S
def Oj:Tb:=(86,TQ)::KR
def FO{a b:Int}(h:0<b):0<=a.fmod b/\a.fmod b<b:=by
 rw[Int.fmod_eq_emod_of_nonneg _ (A3 0x580400300200040 [] [_] h)];exact⟨Int.emod_nonneg _ (A3 0x4680001300200040 [] [_] h),Int.emod_lt_of_pos _ h⟩
def sP(S t:AH)(K l L o:Addr)(R r1:List Ay)(i:Nat)(m:Prop):Prop:=
 (KP (λp a=>M0 p a\/S.fresh a) S t)->(S.fresh l)->(S.fresh L)->(t.A1 K=some [.obj l,.obj L,.obj o])->(t.A1 l=some (R.map Bo))->(t.A1 L=some (r1.map Bo))->(t.A1 o=some ([Cj].map Bo))->(∀r∈R,Cw r)->(∀r∈r1,Cw r)->(R.length<=min i 2)->(r1.length+min i 2<=i)->(l≠L)->(o≠l)->(o≠L)->(K≠l)->(K≠L)->m
def By(S t:AH)(K l L o:Addr)(r r1:List Ay)(i:Nat):Prop:=Ch (sP S t K l L o r r1 i)
section
variable{r0 r1:List Ay}(zh:By σ A7 ll l0 l1 l2 r0 r1 i)
def By.kp:=zh _ λz Z Z Z Z Z Z Z Z Z Z Z Z Z Z Z=>z
def By.f0:=zh _ λZ z Z Z Z Z Z Z Z Z Z Z Z Z Z Z=>z
def By.f1:=zh _ λZ Z z Z Z Z Z Z Z Z Z Z Z Z Z Z=>z
def By.hl:=zh _ λZ Z Z z Z Z Z Z Z Z Z Z Z Z Z Z=>z
def By.h0:=zh _ λZ Z Z Z z Z Z Z Z Z Z Z Z Z Z Z=>z
def By.h1:=zh _ λZ Z Z Z Z z Z Z Z Z Z Z Z Z Z Z=>z
def By.h2:=zh _ λZ Z Z Z Z Z z Z Z Z Z Z Z Z Z Z=>z
def By.Eu:=zh _ λZ Z Z Z Z Z Z z Z Z Z Z Z Z Z Z=>z
def By.Ew:=zh _ λZ Z Z Z Z Z Z Z z Z Z Z Z Z Z Z=>z
def By.n0:=zh _ λZ Z Z Z Z Z Z Z Z z Z Z Z Z Z Z=>z
def By.n1:=zh _ λZ Z Z Z Z Z Z Z Z Z z Z Z Z Z Z=>z
def By.KU:=zh _ λZ Z Z Z Z Z Z Z Z Z Z z Z Z Z Z=>z
def By.MR:=zh _ λZ Z Z Z Z Z Z Z Z Z Z Z z Z Z Z=>z
def By.MU:=zh _ λZ Z Z Z Z Z Z Z Z Z Z Z Z z Z Z=>z
def By.MV:=zh _ λZ Z Z Z Z Z Z Z Z Z Z Z Z Z z Z=>z
def By.MW:=zh _ λZ Z Z Z Z Z Z Z Z Z Z Z Z Z Z z=>z
end
def By.k{K l L o:Addr}{r r1:List Ay}(h:By S t K l L o r r1 i)(k:KP M0 t T):By S T K l L o r r1 i:=
 (λZ B=>B (h.kp.trans (k.mono λZ Z w=>w.elim)) h.f0 h.f1 (k.A1 _ _ h.hl (λw=>w)) (k.A1 _ _ h.h0 (λw=>w)) (k.A1 _ _ h.h1 (λw=>w)) (k.A1 _ _ h.h2 (λw=>w)) h.Eu h.Ew h.n0 h.n1 h.KU h.MR h.MU h.MV h.MW)
def By.sQ{K l L o:Addr}{v r1:List Ay}(h:By S t K l L o v r1 i)(H:i<2)(A:Cw R):By S (t.uL l (v.map Bo++[Bo R])) K l L o (v++[R]) r1 (i+1):=by
 haveI a:=h.n0;haveI b:=h.n1;refine(λZ B=>B (h.kp.trans (KP.AX (.inl (.inr h.f0)))) h.f0 h.f1 (by rw[BI h.MV];exact h.hl) (by rw[AY];simp) (by rw[BI (C1 h.KU)];exact h.h1) (by rw[BI h.MR];exact h.h2) (λr j=>?_) h.Ew (by simp;exact AK 0x85080808021404000a4400850a1002100482 [_,_] [] H a) (A3 0x108080214284040401080280850a1002100482 [_,_] [] b) h.KU h.MR h.MU h.MV h.MW);rcases Bq.1 j with w| w
 ·exact h.Eu r w
 ·haveI:r=R:=Az.1 w;rw[this];exact A
def By.sR{K L l o:Addr}{v r1:List Ay}(h:By S t K L l o v r1 i)(H:2<=i)(A:Cw R):By S (t.uL l (r1.map Bo++[Bo R])) K L l o v (r1++[R]) (i+1):=by
 haveI a:=h.n0;haveI b:=h.n1;refine(λZ B=>B (h.kp.trans (KP.AX (.inl (.inr h.f1)))) h.f0 h.f1 (by rw[BI h.MW];exact h.hl) (by rw[BI h.KU];exact h.h0) (by rw[AY];simp) (by rw[BI h.MU];exact h.h2) h.Eu (λr j=>?_) (A3 0x850808080210050a1002100482 [_,_] [] a) (by simp;exact AK 0x1080802142840404010a02000501088080850a1002100482 [_,_] [] H b) h.KU h.MR h.MU h.MV h.MW);rcases Bq.1 j with w| w
 ·exact h.Ew r w
 ·haveI:r=R:=Az.1 w;rw[this];exact A
def sS(S:AH)(c l h M o:Addr)(i:Nat)(L:AE)(T:AH)(m:Prop):Prop:=
 ∀t A N d p w O E x X a A0 r r1,By S T l h M o r r1 i->L=[some (.obj c),some (.obj l),t,A,N,d,p,w,O,E,x,X,a,A0]->m
def Ol(S:AH)(c K l M o:Addr)(i:Nat)(L:AE)(t:AH):Prop:=Ch (sS S c K l M o i L t)
section
variable{σ A7:AH}{c ll l0 l1 l2:Addr}{i:Nat}{r0 r1:List Ay}
def By.up(C:By σ A7 ll l0 l1 l2 r0 r1 i):By σ A7 ll l0 l1 l2 r0 r1 (i+1):=by
 haveI a:=C.n0;haveI b:=C.n1;exact(λZ B=>B C.kp C.f0 C.f1 C.hl C.h0 C.h1 C.h2 C.Eu C.Ew (A3 0x850808080210050a1002100482 [_,_] [] a) (A3 0x108080214284040401080280850a1002100482 [_,_] [] b) C.KU C.MR C.MU C.MV C.MW)
def half:(i:Int).fdiv 2=((i/2:Nat):Int):=by rw[Int.fdiv_eq_ediv_of_nonneg _ (by decide)];(first| lia| omega)
def kinds{K:Int}(h:0<=K/\K<7):∃o:Int,(([1,1,1,5,2,3,4]:List Int).map AV.int)[K.toNat]?=some (.int o)/\(o=1\/o=2\/o=3\/o=4\/o=5):=by
 rcases Il h.1 with⟨k,rfl⟩
 have h:=Int.ofNat_lt.1 h.2;rcases k with _| _| _| _| _| _| _| k
 ·exact⟨1,rfl,.inl rfl⟩
 ·exact⟨1,rfl,.inl rfl⟩
 ·exact⟨1,rfl,.inl rfl⟩
 ·exact⟨5,rfl,.inr (.inr (.inr (.inr rfl)))⟩
 ·exact⟨2,rfl,.inr (.inl rfl)⟩
 ·exact⟨3,rfl,.inr (.inr (.inl rfl))⟩
 ·exact⟨4,rfl,.inr (.inr (.inr (.inl rfl)))⟩
 ·exact Ad h (Nat.not_lt_of_le (Nat.le_add_left 7 k))
def sT{I:Ag}{K:Fl->AE->AH->Prop}{E A out A0 O l H a:Int}{X G x:Option AV}(C:By σ t ll l0 l1 l2 r0 r1 i)(F:i<4)(v:Cw ⟨O,out,a,l,H,decide (A=2)⟩)(g:∀L t,Ol σ c ll l0 l1 l2 (i+1) L t->K .next L t):
  AP I ((Bc (Bc K8 1) 1).drop 2) K [some (.obj c),some (.obj ll),some (.int i),some (.int E),some (.int A),some (.int out),X,G,some (.int A0),some (.int O),some (.int l),some (.int H),some (.int a),x] t:=by
 have w:word ((i:Int).fdiv 2):=by rw[half];exact BC (Ae 0x2ca0093b9aca0030c41 [_] []) (by(first| lia| omega))
 haveI o:(2:Int)≠0/\(2:Int).natAbs<1073741824:=⟨by decide,by decide⟩;haveI cmp:∀(R:List Ay),∀z∈R.map Bo,CR 3 z (Bo ⟨O,out,a,l,H,decide (A=2)⟩):=λR z d=>by
  refine AJ (DT.1 d) λy Z M=>?_;subst M;exact sO y _
 haveI V:=C.n0;haveI D:=C.n1;haveI rm:∀{r:List Ay},r.length<=10->room (r.map Bo).length:=λh=>by unfold room;rw[Ak];exact A3 0x47a12010600a14000441 [_] [] h
 exists AN rfl,o,w,C.hl;by_cases m:i<2
 ·have pl:BF ((i:Int).fdiv 2) 3=some 0:=by rw[half,show i/2=0 by(first| lia| omega)];rfl
  exists pl,rfl,C.h0,cmp r0;refine FE (λZ=>?_) (λZ=>g _ _ (λZ B=>B _ _ _ _ _ _ _ _ _ _ _ _ _ _ C.up rfl));exists o,w,C.hl,pl,rfl,C.h0,C.h0,rm (A3 0x21400050a1002100482 [_,_] [] V),.inl rfl;exact g _ _ (λZ B=>B _ _ _ _ _ _ _ _ _ _ _ _ _ _ (C.sQ m v) rfl)
 ·have pl:BF ((i:Int).fdiv 2) 3=some 1:=by rw[half,show i/2=1 by(first| lia| omega)];rfl
  exists pl,rfl,C.h1,cmp r1;refine FE (λZ=>?_) (λZ=>g _ _ (λZ B=>B _ _ _ _ _ _ _ _ _ _ _ _ _ _ C.up rfl));exists o,w,C.hl,pl,rfl,C.h1,C.h1,rm (AK 0x214000524004280850a1002100482 [_,_] [] F D),.inl rfl;exact g _ _ (λZ B=>B _ _ _ _ _ _ _ _ _ _ _ _ _ _ (C.sR (A3 0x8004402244000441 [_] [] m) v) rfl)
end
def sU{I:Ag}{F t:AH}{c M e T p:Addr}{i:Nat}{w r1:List Ay}{K:Fl->AE->AH->Prop}{E A out l S B o:Int}{x:Option AV}(C:By F t M e T p w r1 i)(A0:i<4)(V:0<=out/\out<3)(P:0<=l/\l<256)(d:0<=B/\B<63)(H:o=1\/o=2\/o=3\/o=4\/o=5)
  (v:∀L t,Ol F c M e T p (i+1) L t->K .next L t):
  AP I ((Bc (Bc K8 1) 1).drop 1) K [some (.obj c),some (.obj M),some (.int i),some (.int E),some (.int A),some (.int out),some (.int l),some (.int S),some (.int B),some (.int o),some (.int 0),some (.int 0),some (.int 0),x] t:=by
 haveI R:∀Q O a out:Int,Cw ⟨o,out,a,Q,O,decide (A=2)⟩->AP I ((Bc (Bc K8 1) 1).drop 2) K [some (.obj c),some (.obj M),some (.int i),some (.int E),some (.int A),some (.int out),some (.int l),some (.int S),some (.int B),some (.int o),some (.int Q),some (.int O),some (.int a),x] t:=λQ O a out h=>sT C A0 h v;refine Ai (λg=>?_) (λg=>?_)
 ·have N:=FO (a:=S) (b:=256-l) (A3 0xc4804800860039880086012c0200040 [] [_] P);have n:(256:Int)-l≠0:=A3 0x8d00120120021b9880086012c0200040 [] [_] P;exists trivial,n,trivial,AN rfl;refine kX (l':=[some (.obj c),some (.obj M),some (.int i),some (.int E),some (.int A),some (.int out),some (.int l),some (.int S),some (.int B),some (.int o),some (.int l),some (.int (l+S.fmod (256-l))),some (.int 0),x]) rfl (FF (I:=I) (Li (I:=I) ?_));exact R l (l+S.fmod (256-l)) 0 out (λZ D=>D V ⟨Int.le_refl 0,(by decide:(0:Int)<64)⟩ H (λZ=>⟨P.1,by simp only;exact A3 0x16808802009cc480480086112c2200080 [] [_,_] N,by simp only;exact A3 0x59fe21a022009cc480480086112c2200080 [] [_,_] N⟩))
 refine Ai (λG=>?_) (λG=>?_)
 ·haveI N:=FO (a:=B) (b:=2) (by decide);have n:(2:Int)≠0:=by decide
  exists n,trivial;refine Xu (I:=I) (FF (I:=I) (FF (I:=I) (Li (I:=I) ?_)));exact R 0 0 (2+B.fmod 2) out (λZ D=>D V ⟨by simp only;exact A3 0xb400420000e6080012c0200040 [] [_] N,by simp only;exact A3 0x304010d001080e6080012c0200040 [] [_] N⟩ H (λh=>Ad h g))
 refine Ai (λm=>?_) (λm=>?_)
 ·exists trivial;refine Xu (I:=I) (FF (I:=I) (FF (I:=I) (FF (I:=I) (Li (I:=I) ?_))));exact R 0 0 (B+1) out (λZ D=>D V ⟨by simp only;exact A3 0x2d010004003981f886012c0200040 [] [_] d,by simp only;exact A3 0xc100434040013981f886012c0200040 [] [_] d⟩ H (λh=>Ad h g))
 refine Ai (λr=>?_) (λr=>?_)
 ·exists AN rfl;refine kY (l':=[some (.obj c),some (.obj M),some (.int i),some (.int E),some (.int A),some (.int 0),some (.int l),some (.int S),some (.int B),some (.int o),some (.int 0),some (.int 0),some (.int 1),x]) rfl (FF (I:=I) (FF (I:=I) (FF (I:=I) (FF (I:=I) (Li (I:=I) ?_)))));exact R 0 0 1 0 (λZ D=>D ⟨Int.le_refl 0,(by decide:(0:Int)<3)⟩ ⟨(by decide:(0:Int)<=1),(by decide:(1:Int)<64)⟩ H (λh=>Ad h g))
 ·refine(FF (I:=I) (FF (I:=I) (FF (I:=I) (Li (I:=I) ?_))));exact R 0 0 0 out (λZ D=>D V ⟨Int.le_refl 0,(by decide:(0:Int)<64)⟩ H (λh=>Ad h g))
section
variable{I:Ag}(S:AU I KR)
include S
def sV{E t:AH}{c l d M o:Addr}{i:Nat}{R r1:List Ay}{K:Fl->AE->AH->Prop}{D:Int}{Q m v A U Y x X j A0:Option AV}(C:By E t l d M o R r1 i)(F:i<4)(G:∀L t,Ol E c l d M o (i+1) L t->K .next L t):
  AP I (Bc K8 1) K [some (.obj c),some (.obj l),some (.int i),some (.int D),Q,m,v,A,U,Y,x,X,j,A0] t:=by
 haveI f:AU I Gx:=S.dr 2;refine A8 (AN rfl) λb H=>?_;refine sp_i (f.g 85 rfl) ⟨[8,3,256,256,63],AY,AN rfl,λb H=>?_,λNL ra k1 Z Z h=>?_⟩
 ·simp at H;exact A3 0x1cbfa043009601040f7bda1f88601350010c0268c001350000840 [] [_] H
 have T:=(C.k (KP.AX (l:=[.int 8,.int 3,.int 256,.int 256,.int 63]) (.inr H.2.1))).k k1;simp only[rX,rY] at h;haveI B:=FO (a:=D) (b:=8) (by decide);generalize D.fmod 8=kind at h B;haveI V:=FO (a:=D.fdiv 8) (b:=3) (by decide);generalize (D.fdiv 8).fmod 3=out at h V;haveI P:=FO (a:=(D.fdiv 8).fdiv 3) (b:=256) (by decide);generalize ((D.fdiv 8).fdiv 3).fmod 256=least at h P;generalize (((D.fdiv 8).fdiv 3).fdiv 256).fmod 256=span at h;haveI a:=FO (a:=(((D.fdiv 8).fdiv 3).fdiv 256).fdiv 256) (b:=63) (by decide);generalize ((((D.fdiv 8).fdiv 3).fdiv 256).fdiv 256).fmod 63=bits at h a;exists h;refine Ai (λg=>?_) (λg=>G _ _ (λZ y=>y _ _ _ _ _ _ _ _ _ _ _ _ _ _ T.up rfl));refine sp_i (f.g 83 rfl) λZA n k2 Z p=>?_;have r:=T.k k2;refine AJ (kinds ⟨B.1,g⟩) λop O N=>?_;haveI W:word kind:=BC (A3 0xb0089dcd6500186e6200012c0200040 [] [_] B) (A3 0x17dcd65001860130e000840 [] [_] g);haveI e:BF kind (([1,1,1,5,2,3,4]:List Int).map AV.int).length=some kind.toNat:=Dm (A3 0x1601000e6200012c0200040 [] [_] B) (by simp;exact A3 0x61c00130e000840 [] [_] g);exists W,p,e,O,AN rfl;exact sU r F V P a N λL t w=>G L t w
def sW:Vc I 1 13 K8 TQ:=λargs Qa D h=>by
 apply Cu h;clear h;intro c hh;refine⟨rfl,?_⟩;refine BX hh λN X e hq=>?_;refine A8 (AN rfl) λl Q=>A8 (AN rfl) λM W=>A8 (AN rfl) (A8 (AN rfl) λo A=>A8 (AN rfl) λK f=>?_);haveI Y:KP (λp a=>M0 p a\/D.fresh a) D (D.uL l []):=KP.AX (.inl (.inr Q));haveI g:=Y.live _ W;haveI k1:=Y.trans (KP.AX (l:=[]) (.inl (.inr g)));haveI j:=k1.live _ A;haveI k2:=k1.trans (KP.AX (l:=[Bo Cj]) (.inl (.inr j)));haveI n:=k2.live _ f;haveI k3:=k2.trans (KP.AX (l:=[.obj l,.obj M,.obj o]) (.inl (.inr n)));haveI y:M≠l:=S9 W;haveI A0:o≠M:=S9 A;haveI P:((D.uL l []).uL M []).A1 l=some []:=(BI (C1 y)).trans AY;haveI G:o≠l:=C1 (BQ A P);haveI R:(((D.uL l []).uL M []).uL o [Bo Cj]).A1 l=some []:=(BI (C1 G)).trans P;haveI U:(((D.uL l []).uL M []).uL o [Bo Cj]).A1 M=some []:=(BI (C1 A0)).trans AY;haveI x:K≠o:=S9 f;haveI O:K≠l:=C1 (BQ f R);haveI T:K≠M:=C1 (BQ f U);haveI m:By D ((((D.uL l []).uL M []).uL o [Bo Cj]).uL K [.obj l,.obj M,.obj o]) K l M o [] [] 0:=
  (λZ B=>B k3 Q g AY ((BI (C1 O)).trans R) ((BI (C1 T)).trans U) ((BI (C1 x)).trans AY) (λZ h=>by cases h) (λZ h=>by cases h) (Nat.zero_le _) (Nat.le_refl _) (C1 y) G A0 O T)
 exists Xw (m.kp.drop.A1 _ _ X (λw=>w));refine DY (Ol D c K l M o) (λZ B=>B _ _ _ _ _ _ _ _ _ _ _ _ [] [] m rfl) ?_ ?_ ?_
 ·intro i L t d;refine d _ λZ Z Z Z Z Z Z Z Z Z Z Z r r1 C Z=>?_;exact C.kp.drop.A1 _ _ X (λw=>w)
 ·intro i va L t Ka F d H kn _ _ _;refine d _ λZ Z Z Z Z Z Z Z Z Z Z Z r r1 C y2=>?_;rcases y2 with rfl
  have F:i<4:=by simpa [e] using F
  obtain ⟨E,sX⟩:∃E,N[i]?=some E:=⟨_,Aw (AK 0x908401510010a48000482 [_,_] [] e F)⟩;haveI H:va= .AA [.int i,.int E]:=by
   rw[Bb,List.getElem?_zipIdx,Bb,sX] at H;simp at H;exact H.symm
  subst H;exact⟨_,rfl,sV S C F kn⟩
 ·intro L t d;refine d _ λZ Z Z Z Z Z Z Z Z Z Z Z r r1 C y1=>?_;rcases y1 with rfl
  haveI e4:((N.map AV.int).zipIdx.map λ(p:AV×Nat)=>AV.AA [.int p.2,p.1]).length=4:=by simp[e]
  haveI V:=C.n0;haveI v:=C.n1;rw[e4] at V v;exact hq t K l M o r r1 C.kp.drop C.hl C.h0 C.h1 C.h2 C.Eu C.Ew (A3 0x20400050a1008000441 [_] [] V) (A3 0x102000282010a1008000441 [_] [] v)
end
def mC(o a l h:Int)(f:Bool)(x:Int):Prop:=
 (o=1/\((x=l\/(h<255/\x=h+1))\/(f=true/\((l<=90/\65<=h/\(x=65\/x=91))\/(max l 97<=min h 122/\(x=max l 97-32\/x=min h 122-32+1))))))\/
 (o=3/\((Ab a (AQ 1 2)≠0/\(x=10\/x=11))\/(Ab a (AQ 16 32)≠0/\(x=48\/x=58\/x=65\/x=91\/x=95\/x=96\/x=97\/x=123))))
abbrev rC(r:Ay)(x:Int):Prop:=mC r.op r.arg r.B1 r.Ax r.fold x
noncomputable def Ia (q:Int×Int):AV:=.AA [.int q.1,.int q.2]
def ZM(l:List (Int×Int)):Jn (l.map Ia)=some l:=by
 induction l with
 | nil=>rfl
 | cons a l C=>exact AO (Option.map (a:: ·)) C
def DQ(p:List (Int×Int))(S:List Int)(x:Int):Prop:=(∃q∈p,x=q.1\/(q.2<255/\x=q.2+1))\/x∈S
def DQ.app(h:DQ p S x):DQ (p++Q) S x:=h.imp (λ⟨q,a,b⟩=>⟨q,Fu _ a,b⟩) id
def TR:List AV->PE->AH->Prop:=
 aO λc=>aN λQ I=>∃R:List Ay,I.A1 c=some (R.map Bo)/\R.length<=10/\(∀r∈R,Cw r)/\
   ∀S a b (nd A:List Int),KP M0 I S->S.A1 a=some (nd.map .int)->S.A1 b=some (A.map .int)->(∀x∈nd,x=0\/∃r∈R,rC r x)->0∈A->(∀r∈R,∀x,rC r x->x∈A)->nd.length<=1000->A.length<=1000->Q (.AA [.obj a,.obj b]) S
def Om:Tb:=(88,TR)::Oj
def sY(I t:AH)(c pl:Addr)(R:List Ay)(P:List (Int×Int))(d:Addr)(S:List Int)(i:Nat)(l:Prop):Prop:=
 (KP (λp a=>M0 p a\/I.fresh a) I t)->(I.fresh pl)->(t.A1 pl=some (P.map Ia))->(t.A1 d=some (S.map .int))->(d≠pl)->(∀q∈P,q=(0,255)\/∃r∈R,rC r q.1/\(q.2<255->rC r (q.2+1)))->(∀r∈R.take i,∀x,rC r x->DQ P S x)->(DQ P S 0)->(S=[]\/S=[65,91])->l
def DG(I t:AH)(c pl:Addr)(r:List Ay)(p:List (Int×Int))(S:Addr)(O:List Int)(i:Nat):Prop:=Ch (sY I t c pl r p S O i)
section
variable{c pl:Addr}{Ln:List Int}(zh:DG σ A7 c pl rows ps sl Ln i)
def DG.kp:=zh _ λz Z Z Z Z Z Z Z Z=>z
def DG.fp:=zh _ λZ z Z Z Z Z Z Z Z=>z
def DG.hp:=zh _ λZ Z z Z Z Z Z Z Z=>z
def DG.hs:=zh _ λZ Z Z z Z Z Z Z Z=>z
def DG.ne:=zh _ λZ Z Z Z z Z Z Z Z=>z
def DG.A:=zh _ λZ Z Z Z Z z Z Z Z=>z
def DG.B:=zh _ λZ Z Z Z Z Z z Z Z=>z
def DG.z:=zh _ λZ Z Z Z Z Z Z z Z=>z
def DG.sp:=zh _ λZ Z Z Z Z Z Z Z z=>z
end
def DG.push{I t:AH}{c pl:Addr}{R:List Ay}{p:List (Int×Int)}{S:Addr}{O:List Int}{i:Nat}(h:DG I t c pl R p S O i)(Q:List (Int×Int))(H:∀q∈Q,∃r∈R,rC r q.1/\(q.2<255->rC r (q.2+1))):
  DG I (t.uL pl (p.map Ia++Q.map Ia)) c pl R (p++Q) S O i:=by
 refine(λZ B=>B (h.kp.trans (KP.AX (.inl (.inr h.fp)))) h.fp (by rw[AY];simp) (by rw[BI h.ne];exact h.hs) h.ne (λq Y=>?_) (λr v x W=>(h.B r v x W).app) h.z.app h.sp);rcases Bq.1 Y with w| w
 ·exact h.A q w
 ·exact .inr (H q w)
abbrev TS(r:Ay)(x:Int):Prop:=Ab r.arg (AQ 16 32)≠0/\(x=48\/x=58\/x=65\/x=91\/x=95\/x=96\/x=97\/x=123)
abbrev ZN(r:Ay)(x:Int):Prop:=Ab r.arg (AQ 1 2)≠0/\(x=10\/x=11)
noncomputable abbrev Hn (c pl S:Addr)(r:Ay):AE:=[some (.obj c),some (.obj pl),some (.obj S),some (.int r.op),some (.int r.out),some (.int r.arg),some (.int r.B1),some (.int r.Ax),some (.bool r.fold),none]
section
variable{I:Ag}{σ A7:AH}{c pl sl:Addr}{rows:List Ay}{r:Ay}{ps:List (Int×Int)}{sp:List Int}{i:Nat}{K:Fl->AE->AH->Prop}
abbrev MX(I:AH)(c pl:Addr)(R:List Ay)(r:Ay)(i:Nat)(K:Fl->AE->AH->Prop):Prop:=∀(t:AH) (S:Addr) (p:List (Int×Int)) (O:List Int),DG I t c pl R p S O i->p.length<=1+10*(i+1)->(∀x,rC r x->DQ p O x)->K .next (Hn c pl S r) t
def sZ(H:r∈rows)(h:∀x,x=48\/x=58\/x=65\/x=91\/x=95\/x=96\/x=97\/x=123->rC r x):∀q∈[((48:Int),(57:Int)),(65,90),(95,95),(97,122)],∃r∈rows,rC r q.1/\(q.2<255->rC r (q.2+1)):=by
 exact List.forall_mem_cons.2 ⟨⟨r,H,h _ (.inl rfl),λZ=>h _ (.inr (.inl rfl))⟩,List.forall_mem_cons.2 ⟨⟨r,H,h _ (.inr (.inr (.inl rfl))),λZ=>h _ (.inr (.inr (.inr (.inl rfl))))⟩,List.forall_mem_cons.2 ⟨⟨r,H,h _ (.inr (.inr (.inr (.inr (.inl rfl))))),λZ=>h _ (.inr (.inr (.inr (.inr (.inr (.inl rfl))))))⟩,List.forall_mem_cons.2 ⟨⟨r,H,h _ (.inr (.inr (.inr (.inr (.inr (.inr (.inl rfl))))))),λZ=>h _ (.inr (.inr (.inr (.inr (.inr (.inr (.inr rfl)))))))⟩,List.forall_mem_nil _⟩⟩⟩⟩
def sa(w:x=48\/x=58\/x=65\/x=91\/x=95\/x=96\/x=97\/x=123):∃q∈[((48:Int),(57:Int)),(65,90),(95,95),(97,122)],x=q.1\/(q.2<255/\x=q.2+1):=by
 exact w.elim (λa=>⟨_,.head _,.inl a⟩) λw=>w.elim (λa=>⟨_,.head _,.inr ⟨by decide,a⟩⟩) λw=>w.elim (λa=>⟨_,.tail _ (.head _),.inl a⟩) λw=>w.elim (λa=>⟨_,.tail _ (.head _),.inr ⟨by decide,a⟩⟩) λw=>w.elim (λa=>⟨_,.tail _ (.tail _ (.head _)),.inl a⟩) λw=>w.elim (λa=>⟨_,.tail _ (.tail _ (.head _)),.inr ⟨by decide,a⟩⟩) λw=>w.elim (λa=>⟨_,.tail _ (.tail _ (.tail _ (.head _))),.inl a⟩) λw=>⟨_,.tail _ (.tail _ (.tail _ (.head _))),.inr ⟨by decide,w⟩⟩
def DQ.new(h:∃q∈Q,x=q.1\/(q.2<255/\x=q.2+1)):DQ (p++Q) S x:=by
 refine AJ h λq a b=>?_;exact .inl ⟨q,GN _ a,b⟩
def t4(G:MX σ c pl rows r i K)(R:r∈rows)(F:i<10)(C:DG σ A7 c pl rows ps sl sp i)(H:ps.length<=1+10*i+5)(h:∀x,rC r x->DQ ps sp x\/(r.op=3/\TS r x)):
  AP I ((Bc FZ 1).drop 3) K (Hn c pl sl r) A7:=by
 have S:¬(r.op=3/\Ab r.arg (AQ 16 32)≠0)->K .next (Hn c pl sl r) A7:=λg=>G A7 sl ps sp C (A3 0x4214640401084000a105021460842000482 [_,_] [] H) λx j=>(h x j).resolve_right λw=>g ⟨w.1,w.2.1⟩
 refine Ai (λg=>?_) (λg=>BW (S λw=>g w.1));refine A8 trivial (A8 trivial ?_);refine DL (λd=>?_) λW=>S λw=>w.2 W;exists C.hp;refine A8 (by unfold room;simp;exact AK 0x8f423c20c014a8010a105021460842000482 [_,_] [] F H) (A8 (.inl rfl) ?_);refine G _ sl _ sp (C.push _ (sZ R λx h=>.inr ⟨g,.inr ⟨d,h⟩⟩)) (by simp;exact A3 0x210a3202008420410000a105021460842000482 [_,_] [] H) λx j=>?_;rcases h x j with w| w
 ·exact w.app
 ·exact .new (sa w.2.2)
def t3(G:MX σ c pl rows r i K)(R:r∈rows)(h:i<10)(C:DG σ A7 c pl rows ps sl sp i)(H:ps.length<=1+10*i+4)(X:∀x,rC r x->DQ ps sp x\/(r.op=3/\(ZN r x\/TS r x))):
  AP I ((Bc FZ 1).drop 2) K (Hn c pl sl r) A7:=by
 have S:¬(r.op=3/\Ab r.arg (AQ 1 2)≠0)->AP I ((Bc FZ 1).drop 3) K (Hn c pl sl r) A7:=λg=>t4 G R h C (A3 0x420a0428c1084000a104021460842000482 [_,_] [] H) λx j=>by
  rcases X x j with w| ⟨W,w| w⟩
  ·exact .inl w
  ·exact Ad ⟨W,w.1⟩ g
  ·exact .inr ⟨W,w⟩
 refine Ai (λg=>?_) (λg=>BW (S λw=>g w.1));refine A8 trivial (A8 trivial ?_);refine DL (λd=>?_) λY=>S λw=>w.2 Y;exists C.hp,AN rfl,C.hp;refine A8 (by unfold room;simp;exact AK 0x8f424020c014a8010a104021460842000482 [_,_] [] h H) (A8 (.inl rfl) ?_);have V:rC r 10/\rC r 11:=⟨.inr ⟨g,.inl ⟨d,.inl rfl⟩⟩,.inr ⟨g,.inl ⟨d,.inr rfl⟩⟩⟩;refine t4 G R h (C.push [(10,10)] λq T=>⟨r,R,by rw[Az.1 T];exact⟨V.1,λZ=>V.2⟩⟩) (by simp;exact A3 0x42080428c1084000a104021460842000482 [_,_] [] H) λx j=>?_;rcases X x j with w| ⟨W,w| w⟩
 ·exact .inl w.app
 ·exact .inl (.new ⟨(10,10),Az.2 rfl,by simp only;exact A3 0x1ee6a0205000261fe21a80d5000273dab0004d500022340008880 [] [_,_] w⟩)
 ·exact .inr ⟨W,w⟩
def ZO(G:MX σ c pl rows r i K)(R:r∈rows)(F:i<10)(C:DG σ A7 c pl rows p sl sp i)(M:p.length<=1+10*i+2)(H:r.op=1->DQ p sp r.B1/\(r.Ax<255->DQ p sp (r.Ax+1)))(j:max r.B1 97<=min r.Ax 122->DQ p sp (max r.B1 97-32)/\DQ p sp (min r.Ax 122-32+1)):
  AP I ((O4 ((Bc FZ 1).getD 1 .brk)).drop 1) (Cs (AP I ((Bc FZ 1).drop 2) K) K) (Hn c pl sl r) A7:=by
 have f:∀S:List Int,(∀x∈sp,x∈S)->(r.B1<=90/\65<=r.Ax->65∈S/\91∈S)->∀x,rC r x->DQ p S x\/(r.op=3/\(ZN r x\/TS r x)):=λS R d x m=>by
  have U:∀y,DQ p sp y->DQ p S y:=λy h=>h.imp id (R y);obtain ⟨W,w| ⟨_,w⟩⟩| w:=m
  ·left;rcases w with rfl| ⟨w,rfl⟩
   ·exact U _ (H W).1
   ·exact U _ ((H W).2 w)
  ·left;rcases w with⟨a,b,rfl| rfl⟩| ⟨a,rfl| rfl⟩
   ·exact .inr (d ⟨a,b⟩).1
   ·exact .inr (d ⟨a,b⟩).2
   ·exact U _ (j a).1
   ·exact U _ (j a).2
  ·exact .inr w
 have A0:¬(r.B1<=90/\65<=r.Ax)->AP I ((Bc FZ 1).drop 2) K (Hn c pl sl r) A7:=λg=>t3 G R F C (A3 0x42080428c1084000a102021460842000482 [_,_] [] M) (f sp (λZ h=>h) λw=>Ad w g);refine Ai (λL=>?_) (λg=>BW (A0 λw=>g w.1));refine Ai (λX=>?_) (λg=>A0 λw=>g w.2);refine A8 (AN rfl) λz l=>?_;haveI n:pl≠z:=BQ l C.hp;have v:∀x∈sp,x∈([65,91]:List Int):=by
  rcases C.sp with e| e
  ·rw[e];intro x H;cases H
  ·rw[e];exact λZ h=>h
 exact t3 G R F (sp:=[65,91]) (λZ B=>B (C.kp.trans (KP.AX (.inr l.2.1))) C.fp (by rw[BI n];exact C.hp) AY (C1 n) C.A (λP h x H=>(C.B P h x H).imp id (v x)) (C.z.imp id (v 0)) (.inr rfl)) (A3 0x42080428c1084000a102021460842000482 [_,_] [] M) (f [65,91] v λZ=>⟨Dt,GO _ (Az.2 rfl)⟩)
def t2(A:MX σ c pl rows r i K)(R:r∈rows)(H:i<10)(C:DG σ A7 c pl rows ps sl sp i)(M:ps.length<=1+10*i+1)(h:r.op=1->DQ ps sp r.B1/\(r.Ax<255->DQ ps sp (r.Ax+1))):
  AP I ((Bc FZ 1).drop 1) K (Hn c pl sl r) A7:=by
 have F:¬(r.op=1/\r.fold=true)->AP I ((Bc FZ 1).drop 2) K (Hn c pl sl r) A7:=λg=>t3 A R H C (A3 0x42080428c1084000a101021460842000482 [_,_] [] M) λx j=>by
  obtain ⟨W,w| w⟩| w:=j
  ·left;rcases w with rfl| ⟨w,rfl⟩
   ·exact(h W).1
   ·exact(h W).2 w
  ·exact Ad ⟨W,w.1⟩ g
  ·exact .inr w
 refine Ai (λg=>Cf (λf=>?_) λf=>F λw=>f w.2) (λg=>BW (F λw=>g w.1));refine Ai (λG=>?_) (λG=>ZO A R H C (A3 0x42040428c1084000a101021460842000482 [_,_] [] M) h λw=>Ad w G);exists C.hp,trivial,trivial,AN rfl,C.hp;refine A8 (by unfold room;simp;exact AK 0x8f424020c014a8010a101021460842000482 [_,_] [] H M) (A8 (.inl rfl) ?_);have S:rC r (max r.B1 97-32)/\rC r (min r.Ax 122-32+1):=⟨.inl ⟨g,.inr ⟨f,.inr ⟨G,.inl rfl⟩⟩⟩,.inl ⟨g,.inr ⟨f,.inr ⟨G,.inr rfl⟩⟩⟩⟩;exact ZO A R H (C.push [(max r.B1 97-32,min r.Ax 122-32)] λq T=>⟨r,R,by rw[Az.1 T];exact⟨S.1,λZ=>S.2⟩⟩) (by simp;exact A3 0x42020428c1084000a101021460842000482 [_,_] [] M) (λw=>⟨(h w).1.app,λv=>((h w).2 v).app⟩) λw=>⟨.new ⟨_,Az.2 rfl,.inl rfl⟩,.new ⟨_,Az.2 rfl,.inr ⟨by simp only;exact Ae 0x30ff10d210086a1e84300840 [] [_],rfl⟩⟩⟩
end
def sd(I:AH)(c pl:Addr)(r:List Ay)(i:Nat)(L:AE)(T:AH)(l:Prop):Prop:=
 ∀S x X d t w M p O,DG I T c pl r p S O i->p.length<=1+10*i->L=[some (.obj c),some (.obj pl),some (.obj S),x,X,d,t,w,M,none]->l
def se(S:AH)(c pl:Addr)(r:List Ay)(i:Nat)(L:AE)(t:AH):Prop:=Ch (sd S c pl r i L t)
section
variable{I:Ag}(S:AU I Oj)
include S
theorem sf{Q:PE}{D T:AH}{c pl n:Addr}{R:List Ay}{P:List (Int×Int)}{S:List Int}{X N O W x7 x8:Option AV}(M:R.length<=10)(h:∀E a b (nd A:List Int),KP M0 D E->E.A1 a=some (nd.map .int)->E.A1 b=some (A.map .int)->(∀x∈nd,x=0\/∃r∈R,rC r x)->0∈A->(∀r∈R,∀x,rC r x->x∈A)->nd.length<=1000->A.length<=1000->Q (.AA [.obj a,.obj b]) E)
  (C:DG D T c pl R P n S R.length) (A0:P.length<=1+10*R.length):
  AP I (FZ.drop 2) (BB Q) [some (.obj c),some (.obj pl),some (.obj n),X,N,O,W,x7,x8,none] T:=by
 have l:S.length<=2:=by rcases C.sp with e| e<;>rw[e]<;>simp
 haveI f:=List.length_filter_le (λp:Int×Int=>decide (p.2<255)) P;exists C.hp,ZM P;refine A8 (by unfold room;exact AK 0x11e848041802850021421460842000482 [_,_] [] M A0) λa L=>?_;have k1:KP M0 T (T.uL a (P.map λp=>AV.int p.1)):=KP.AX (.inr L.2.1);exists k1.A1 _ _ C.hp (λw=>w),ZM P;refine A8 (by unfold room;exact AK 0x11e848041802850021421460842000482 [_,_] [] M A0) λb g=>?_;exists (BI (BQ g AY)).trans AY,AY;generalize v:(P.map λp=>p.1)++((P.filter λp=>decide (p.2<255)).map λp=>p.2+1)=nd;haveI V:(P.map λp=>AV.int p.1)++((P.filter λp=>decide (p.2<255)).map λp=>AV.int (p.2+1))=nd.map .int:=by rw[<-v];simp[Function.comp_def]
 have m:nd.length<=300:=by rw[<-v];simp;exact CA 0x425821a0210050a00828428c2084000a001084c3 [_,_,_] [] M A0 f
 rw[V];refine A8 (by unfold room;simp only[List.length_map];exact CA 0x11e848041a0210050a00828428c2084000a001084c3 [_,_,_] [] M A0 f) λd hd=>?_;have K:=(k1.trans (KP.AX (l:=(P.filter λp=>decide (p.2<255)).map λp=>AV.int (p.2+1)) (.inr g.2.1))).trans (KP.AX (l:=nd.map .int) (.inr hd.2.1));haveI G:=C.kp.trans (K.mono λZ Z w=>w.elim);exists AY,K.A1 _ _ C.hs (λw=>w);refine A8 (by unfold room;simp only[List.length_map];exact AK 0x11e848041a02100502004284b04300482 [_,_] [] l m) λe j=>?_;have y:∀x,DQ P S x->x∈nd++S:=λx H=>by
  refine(v)▸?_;obtain ⟨q,h,rfl| ⟨U,rfl⟩⟩| H:=H
  ·exact Fu _ (Fu _ (HC (f:=λp:Int×Int=>p.1) h))
  ·exact Fu _ (GN _ (HC (f:=λp:Int×Int=>p.2+1) (List.mem_filter.2 ⟨h,by exact Bg U⟩)))
  ·exact GN _ H
 refine A8 (AN rfl) (h _ d e nd (nd++S) (G.trans (KP.AX (.inr j.2.1))).drop (by rw[BI (BQ j AY)];exact AY) (by rw[AY,CX]) (λx H=>?_) (y 0 C.z) (λr t x H=>y x (C.B r (by rw[List.take_length];exact t) x H)) (A3 0x47d02180284b04300441 [_] [] m) (by simp;exact AK 0x47d021a02100502004284b04300482 [_,_] [] l m));rw[<-v] at H;rcases Bq.1 H with w| w
 ·refine AJ (DT.1 w) λq h B=>?_;subst B;obtain rfl| ⟨r,t,U,_⟩:=C.A q h
  ·exact .inl rfl
  ·exact .inr ⟨r,t,U⟩
 ·refine AJ (DT.1 w) λq h B=>?_;subst B;refine Ac (λF Y=>?_) (List.mem_filter.1 h);have Y:q.2<255:=Cb Y;obtain rfl| ⟨r,t,_,o⟩:=C.A q F
  ·exact Ad Y (by simp)
  ·exact .inr ⟨r,t,o Y⟩
def si:Vc I 1 9 FZ TR:=λargs Q D h=>by
 apply Cu h;clear h;intro c hh;refine⟨rfl,?_⟩;refine Ht hh λA0 N M LC R=>?_;refine A8 (AN rfl) (A8 (AN rfl) λpl f=>?_);refine A8 (AN rfl) λd F=>?_;refine A8 (AN rfl) ?_;haveI V:KP (λpa a=>M0 pa a\/D.fresh a) D (D.uL pl [Ia (0,255)]):=KP.AX (.inl (.inr f));haveI gs:=V.live _ F;haveI n:d≠pl:=C1 (BQ F AY);haveI l:DG D ((D.uL pl [Ia (0,255)]).uL d []) c pl A0 [(0,255)] d [] 0:=(λZ B=>B (V.trans (KP.AX (.inl (.inr gs)))) f (by rw[BI (C1 n),AY];rfl) AY n (λq R=>.inl (Az.1 R)) (λr t=>by simp at t) (.inl ⟨(0,255),Az.2 rfl,.inl rfl⟩) (.inl rfl));refine(?_:AP I (FZ.drop 1) (BB Q) [some (.obj c),some (.obj pl),some (.obj d),none,none,none,none,none,none,none] ((D.uL pl [Ia (0,255)]).uL d []));generalize (D.uL pl [Ia (0,255)]).uL d []=VU at l⊢;exists Er (l.kp.drop.A1 _ _ N (λw=>w));refine DY (se D c pl A0) (λZ B=>B d none none none none none none [(0,255)] [] l (AN rfl) rfl) ?_ ?_ ?_
 ·intro i L W e;refine e _ λd X Y j y m o p O C Z Z=>?_;exact C.kp.drop.A1 _ _ N (λw=>w)
 ·intro i va L W K P e E kn _ _ _;refine e _ λd X Y j y m o p O C H y2=>?_;rcases y2 with rfl
  rw[Bb] at E;refine AJ (BY.1 E) λr t Br=>?_;subst Br;rw[Ak] at P;haveI T:=Bj t;haveI sj:A0.take (i+1)=A0.take i++[r]:=by rw[List.take_add_one,t];rfl
  haveI v:i<10:=AK 0x950001428010a42100482 [_,_] [] M P;refine⟨_,rfl,?_⟩;haveI G:MX D c pl A0 r i K:=λW d p O C M hx=>kn _ _ (λZ B=>B d _ _ _ _ _ _ p O (λZ B=>B C.kp C.fp C.hp C.hs C.ne C.A (λr' U x A=>by
    rw[sj] at U;rcases Bq.1 U with w| w
    ·exact C.B r' w x A
    ·haveI A:=(Az.1 w)▸A;exact hx x A) C.z C.sp) M rfl)
  refine Ai (λg=>?_) (λg=>t2 G T v C (A3 0x8404085182108001421460842000482 [_,_] [] H) λw=>Ad w g);exists C.hp,AN rfl,C.hp;refine A8 (by unfold room;simp;exact AK 0x11e8480418028428c1084000a54008482 [_,_] [] H v) (A8 (.inl rfl) ?_);haveI rr:rC r r.B1/\(r.Ax<255->rC r (r.Ax+1)):=⟨.inl ⟨g,.inl (.inl rfl)⟩,λw=>.inl ⟨g,.inl (.inr ⟨w,rfl⟩)⟩⟩;exact t2 G T v (C.push [(r.B1,r.Ax)] λq R=>⟨r,T,by rw[Az.1 R];exact rr⟩) (by simp;exact A3 0x1085182108001421460842000482 [_,_] [] H) λZ=>⟨.new ⟨_,Az.2 rfl,.inl rfl⟩,λw=>.new ⟨_,Az.2 rfl,.inr ⟨w,rfl⟩⟩⟩
 ·intro L W e;refine e _ λd X Y j y m o p O C H y1=>?_;rcases y1 with rfl
  rw[Ak] at C H;exact sf S M R C H
end
def so(S:AH)(p C:Addr)(A:List Addr)(P:AM)(l:Prop):Prop:=
 (BJ S p C A P)->(A.Nodup)->(S.A4 p 16=some (.bytes []))->(S.A4 p 17=some (.bool false))->(S.A4 p 18=some .none)->(Bp S p)->(∀a∈A,Bp S a)->(C≠p)->l
def CV(S:AH)(p C:Addr)(a:List Addr)(P:AM):Prop:=Ch (so S p C a P)
section
variable(zh:CV σ p il as P)
def CV.pv:=zh _ λz Z Z Z Z Z Z Z=>z
def CV.nd:=zh _ λZ z Z Z Z Z Z Z=>z
def CV.Fi:=zh _ λZ Z z Z Z Z Z Z=>z
def CV.Fj:=zh _ λZ Z Z z Z Z Z Z=>z
def CV.Fn:=zh _ λZ Z Z Z z Z Z Z=>z
def CV.tp:=zh _ λZ Z Z Z Z z Z Z=>z
def CV.ta:=zh _ λZ Z Z Z Z Z z Z=>z
def CV.ne:=zh _ λZ Z Z Z Z Z Z z=>z
end
def CV.kp{M:Pl->Addr->Prop}{p C:Addr}(h:CV S p C A P)(k:KP M S E)(n:∀a,¬M .f a)(N:¬M .l C):CV E p C A P:=by
 haveI e:=k.A4 p (nn h.pv.cls) (n p);exact(λZ B=>B (h.pv.kp k (n _) N (λa Z=>n a)) h.nd (by rw[e];exact h.Fi) (by rw[e];exact h.Fj) (by rw[e];exact h.Fn) (h.tp.kp k (nn h.pv.cls) (n _)) (λa H=>(h.ta a H).kp k (nn (h.pv.Ei H)) (n _)) h.ne)
noncomputable def Fo (l:List Ap):List Ap:=match l.getLast? with
 | none=>l
 | some R=>l.dropLast++[{R with last:=true}]
def CV.push{p C:Addr}(h:CV S p C A P)(F:Bs S i R)(t:Bp S i)(n:i∉A):CV (S.uL C (A.map .obj++[.obj i])) p C (A++[i]) {P with AG:=P.AG++[R]}:=by
 haveI v:=h.pv;refine(λZ B=>B (λZ B=>B v.cls v.AG (by rw[AY];simp) (by simp[v.len]) (λj a r q1 Q=>?_) v.start v.loose v.rev v.DE v.CO) ?_ h.Fi h.Fj h.Fn h.tp (λa H=>?_) h.ne)
 ·rcases FI q1 with⟨l,q1⟩| ⟨l,rfl⟩
  ·simp only at Q;rw[HB (by haveI:=v.len;exact AK 0x908401488200a821104c3 [_,_,_] [] l this)] at Q;exact(v.inst j a r q1 Q).uL
  ·haveI:=(FI Q).resolve_left (by haveI:=v.len;(first| lia| omega));rw[this.2];exact F.uL
 ·rw[List.nodup_append];refine⟨h.nd,by simp,λa H b c=>?_⟩;haveI:b=i:=Az.1 c;subst this;intro I;rcases I with rfl
  exact n H
 ·rcases Bq.1 H with w| w
  ·exact h.ta a w
  ·haveI:a=i:=Az.1 w;rw[this];exact t
def CV.mark{p C:Addr}(h:CV S p C A P)(L:A.getLast?=some a):CV (S.uF a 7 (.bool true)) p C A {P with AG:=Fo P.AG}:=by
 have v:=h.pv;have U:A≠[]:=by rintro rfl;simp at L
 have m:=List.length_pos_iff.2 U;haveI W:=List.mem_of_getLast? L;have N:p≠a:=λe=>by have:=v.Ei W;rw[<-e,v.cls] at this;cases this
 have g:∀f,(S.uF a 7 (.bool true)).A4 p f=S.A4 p f:=λf=>by rw[DO,A5 (λw=>N w.1)]
 obtain ⟨R,D⟩:∃R,P.AG.getLast?=some R:=by
  refine⟨_,Ik (λe=>?_)⟩;haveI:=v.len;rw[e] at this;simp at this;exact U this
 have l:Fo P.AG=P.AG.dropLast++[{R with last:=true}]:=by unfold Fo;rw[D]
 have T:P.AG.dropLast.length=A.length-1:=by rw[List.length_dropLast,v.len]
 have I:A[A.length-1]?=some a:=by rw[<-List.getLast?_eq_getElem?];exact L
 haveI V:P.AG[A.length-1]?=some R:=by rw[v.len,<-List.getLast?_eq_getElem?];exact D
 refine(λZ B=>B (λZ B=>B v.cls (by rw[g];exact v.AG) v.A1 (by simp only;rw[l];simp[T];exact A3 0x14808121000200a40100041 [_] [] m) (λj b r q1 Q=>?_) (by rw[g];exact v.start) (by rw[g];exact v.loose) (by rw[g];exact v.rev) (by rw[g];exact v.DE) (by rw[g];exact v.CO)) h.nd (by rw[g];exact h.Fi) (by rw[g];exact h.Fj) (by rw[g];exact h.Fn) (h.tp.uF trivial) (λb c=>(h.ta b c).uF trivial) h.ne);simp only at Q;rw[l] at Q;have H:j<A.length:=by
  by_cases w:j<A.length
  ·exact w
  ·rw[EP (by exact A3 0x8084012240108482 [_,_] [] w)] at q1;cases q1
 by_cases e:j=A.length-1
 ·subst e;rw[I] at q1;cases q1;rewrite(config:={}) [List.getElem?_append_right (by exact A3 0x10908021005490802100482 [_,_] [] T),T] at Q;simp at Q;subst Q;haveI w:=v.inst _ a R I V;exact(λZ B=>B w.cls (by rw[DO,A5 (λw=>Ad w.2 (by decide))];exact w.op) (by rw[DO,A5 (λw=>Ad w.2 (by decide))];exact w.out) (by rw[DO,A5 (λw=>Ad w.2 (by decide))];exact w.arg) (by rw[DO,A5 (λw=>Ad w.2 (by decide))];exact w.B1) (by rw[DO,A5 (λw=>Ad w.2 (by decide))];exact w.Ax) (by rw[DO,A5 (λw=>Ad w.2 (by decide))];exact w.fold) (by simp[DO]))
 ·rw[HB (by exact CA 0x9084015242010421488200914908041004c3 [_,_,_] [] T H e),List.getElem?_dropLast,A6 (by haveI:=v.len;exact CA 0x948401080291040122921008200a821104c3 [_,_,_] [] H e this)] at Q;have w:=v.inst j b r q1 Q;haveI n:b≠a:=by
   intro E;rcases E with rfl
   haveI M:=List.pairwise_iff_getElem.1 (List.nodup_iff_pairwise_ne.1 h.nd);rw[Aw H] at q1;rw[Aw (by exact A3 0x2401484000a40108482 [_,_] [] H)] at I;exact M j (A.length-1) H (A3 0x2401484000a40108482 [_,_] [] H) (AK 0x4a4200840148420091490802100482 [_,_] [] H e) ((BL q1).trans (BL I).symm)
  exact w.kp (M:=MF a) (KP.BK (.inl rfl)) n
def CV.A4(h:CV S p Y A P)(r:v.tf)(F:P'.AG=P.AG)(t:P'.rev=P.rev)(x:P'.DE=P.DE)(l:P'.CO=P.CO)(C:(f=9/\v= .int P'.start/\P'.loose=P.loose)\/(f=10/\v= .int P'.loose/\P'.start=P.start)\/((f=14\/f=15)/\P'.start=P.start/\P'.loose=P.loose)):CV (S.uF p f v) p Y A P':=by
 have w:=h.pv;have g:∀k,k≠f->(S.uF p f v).A4 p k=S.A4 p k:=λk T=>by rw[DO,A5 (λw=>T w.2)]
 have G:∀k,(Nat.beq k 9||(Nat.beq k 10||(Nat.beq k 14||Nat.beq k 15)))=false->(S.uF p f v).A4 p k=S.A4 p k:=λk h=>g k λw=>by
  subst w;have e:k=9\/k=10\/k=14\/k=15:=C.elim (λw=>.inl w.1) λw=>w.elim (λw=>.inr (.inl w.1)) λw=>.inr (.inr w.1);rcases e with e| e| e| e<;>(rw[e] at h;cases h)
 have n:∀a∈A,a≠p:=λa H e=>by have:=w.Ei H;rw[e,w.cls] at this;cases this
 have K:KP (MF p) S (S.uF p f v):=KP.BK (.inl rfl);haveI W:CV (S.uF p f v) p Y A P':=by
  refine(λZ B=>B (λZ B=>B w.cls ?_ w.A1 (by rw[F];exact w.len) (λj a R q1 Q=>?_) ?_ ?_ ?_ ?_ ?_) h.nd ?_ ?_ ?_ (h.tp.uF r) (λa H=>(h.ta a H).kp K (by exact nn (w.Ei H)) (n a H)) h.ne)
  ·rw[G _ rfl];exact w.AG
  ·haveI Q:=(F)▸Q;exact(w.inst j a R q1 Q).kp K (n a (Bj q1))
  ·obtain ⟨rfl,rfl,_⟩| ⟨rfl,rfl,e⟩| ⟨q,e,_⟩:=C
   ·simp[DO]
   ·rw[g _ (by exact Ae 0x2294048000 [] []),e];exact w.start
   ·rw[g _ (by exact A3 0x11400a40f53c000a9c000441 [_] [] q),e];exact w.start
  ·obtain ⟨rfl,rfl,e⟩| ⟨rfl,rfl,e⟩| ⟨q,_,e⟩:=C
   ·rw[g _ (by exact Ae 0x2292050000 [] []),e];exact w.loose
   ·simp[DO]
   ·rw[g _ (by exact A3 0x11400a80f53c000a9c000441 [_] [] q),e];exact w.loose
  ·rw[G _ rfl,t];exact w.rev
  ·rw[G _ rfl,x];exact w.DE
  ·rw[G _ rfl,l];exact w.CO
  ·rw[G _ rfl];exact h.Fi
  ·rw[G _ rfl];exact h.Fj
  ·rw[G _ rfl];exact h.Fn
 exact W
def sq(h:∀E p Y i,KP M0 S E->S.fresh p->S.fresh Y->S.fresh i->CV E p Y [i] ⟨[FN],0,0,false,false,false⟩->Q (.obj p) E):CN ML 217 [] Q S:=by
 intro p F;haveI K:KP (λp a=>M0 p a\/S.fresh a) S (S.uN p 217):=KP.new F.1;refine⟨by exact A6 rfl,λf=>by exact A6 rfl,λE Y i k T G n L C t l m D A P W c d r I=>⟨rfl,?_⟩⟩;refine h E p Y i (K.tr k λq a w=>by cases q<;>first| (haveI w:a=p:=w;rw[w];exact .inr F)| exact w.elim).drop F (K.live _ T) (K.live _ G) (λZ B=>B (λZ B=>B (k.cls p 217 (A6 rfl)) m L rfl (λj a R q1 v=>?_) D A P W c) (by simp) d r I l (λa H=>?_) (λe=>by haveI:=T.1;rw[e] at this;simp[AH.uN] at this))
 ·match j with
  | 0=>cases q1;cases v;exact C
  | j+1=>simp at q1
 ·haveI:a=i:=Az.1 H;rw[this];exact t
noncomputable def C6 (pl:List Int)(r:Ay):Ap:=⟨r.op,if r.op=4 then 0 else pl.getD r.out.toNat 0,r.arg,r.B1,r.Ax,r.fold,false⟩
def D5 (pl:List Int)(r:List Ay):List Ap:=if r=[] then [FN] else r.map (C6 pl)
def GH (l:Bool)(p:Int):List Ap:=if l=true then [{FN with last:=true},⟨5,p,0,0,0,false,false⟩,⟨1,1,0,0,255,false,true⟩] else [{FN with last:=true}]
noncomputable def H0:Int->List (List Ay)->List Int
 | _,[]=>[]
 | a,r::rs=>a::H0 (a+max 1 (r.length:Int)) rs
def ZP{rs:List (List Ay)}:H0 a (r::rs)=a::H0 (a+max 1 (r.length:Int)) rs:=rfl
def sr:H0 a []=[]:=rfl
noncomputable def Be (l:Bool)(rs:List (List Ay)):List Int:=H0 (if l=true then 3 else 1) rs
def DR (l:Bool)(rs:List (List Ay)):List Ap:=rs.foldl (λacc r=>Fo (acc++D5 (Be l rs) r)) (GH l ((Be l rs).getD 0 0))
def Ex (l:Bool)(rs:List (List Ay)):AM:=⟨DR l rs,(Be l rs).getD 0 0,if l=true then 1 else(Be l rs).getD 0 0,false,false,false⟩
def TU:List AV->PE->AH->Prop:=
 aO λK=>aB λT=>aN λQ S=>∃(L:List Addr) (rs:List (List Ay)),S.A1 K=some (L.map .obj)/\L.length=rs.length/\rs.length=3/\(∀(j:Nat) (l:Addr) (r:List Ay),L[j]?=some l->rs[j]?=some r->S.A1 l=some (r.map Bo)/\r.length<=2/\∀x∈r,Cw x)/\
   ∀E p C a,KP M0 S E->S.fresh p->CV E p C a (Ex T rs)->Q (.obj p) E
def ZQ:Tb:=(87,TU)::Om
def sy{A:Type}{h:List A}{z:A}(H:h.getLast?=some z):BF (-1) h.length=some (h.length-1):=by
 haveI:h≠[]:=by rintro rfl;simp at H
 haveI:=List.length_pos_iff.2 this;unfold BF;rw[A5 (Ae 0x45902000000 [] []),A6 (A3 0x2c81010a00a40100041 [_] [] this)];congr 1;exact Ae 0x52420004a82802408041 [_] []
def t6(a:Int)(rs:List (List Ay)):(H0 a rs).length=rs.length:=by
 induction rs generalizing a with
 | nil=>rfl
 | cons r rs C=>rw[ZP,List.length_cons,C];rfl
def t7(l:Bool)(rs:List (List Ay))(P:List Int)(h:Be l rs=P)(H:rs.length=3):P.length=3:=by rw[<-h,Be,t6,H]
set_option genInjectivity false in
set_option genSizeOf false in
structure EA(Q:PE) where
 (σ:AH) (ll p il pl:Addr) (lp:Bool) (ls:List Addr) (rs:List (List Ay)) (PL:List Int)
 Oo:Be lp rs=PL
 KV:σ.A1 ll=some (ls.map .obj)
 Oq:ls.length=rs.length
 MY:rs.length=3
 ZR:∀(j:Nat) (l:Addr) (r:List Ay),ls[j]?=some l->rs[j]?=some r->σ.A1 l=some (r.map Bo)/\r.length<=2/\∀x∈r,Cw x
 fp:σ.fresh p
 BA:σ.fresh il
 t8:σ.fresh pl
 nil:il≠pl
 hq:∀Aq as,KP M0 σ Aq->CV Aq p il as (Ex lp rs)->Q (.obj p) Aq
namespace EA
variable{Q:PE}(x:EA Q)
def E2(A:List Addr)(P:AM)(f:List Int)(t:AH)(l:Prop):Prop:=
 (KP (λp a=>M0 p a\/x.σ.fresh a) x.σ t)->(CV t x.p x.il A P)->(t.A1 x.pl=some (f.map .int))->(∀a∈A,x.σ.fresh a)->l
def St(a:List Addr)(P:AM)(f:List Int)(t:AH):Prop:=Ch (x.E2 a P f t)
section
variable{x}(zh:x.St as P f A7)
def St.kp:=zh _ λz Z Z Z=>z
def St.pv:=zh _ λZ z Z Z=>z
def St.hf:=zh _ λZ Z z Z=>z
def St.fr:=zh _ λZ Z Z z=>z
end
noncomputable abbrev Lc (m:Int)(a b c d e f g:Option AV):AE:=[some (.obj x.ll),some (.bool x.lp),some (.obj x.p),some (.obj x.pl),some (.int m),a,b,c,d,e,f,g]
noncomputable abbrev Pi (l:List Ap):AM:=⟨l,0,0,false,false,false⟩
abbrev acc (i:Nat):List Ap:=(x.rs.take i).foldl (λacc r=>Fo (acc++D5 x.PL r)) (GH x.lp (x.PL.getD 0 0))
def t9(i:Nat)(L:AE)(t:AH)(l:Prop):Prop:=
 ∀C m f a,x.St [C] (Pi [{FN with last:=true}]) f t->f.length=i->f++H0 m (x.rs.drop i)=x.PL->L=x.Lc m a none none none none none none->l
def J1(i:Nat)(L:AE)(t:AH):Prop:=Ch (x.t9 i L t)
def SA(m:Int)(i:Nat)(L:AE)(t:AH)(l:Prop):Prop:=
 ∀A a b c d e f g,x.St A (Pi (x.acc i)) x.PL t->A.length<=3+3*i->L=x.Lc m a b c d e f g->l
def J2(m:Int)(i:Nat)(L:AE)(t:AH):Prop:=Ch (x.SA m i L t)
def tA(m:Int)(i:Nat)(l:Addr)(r:List Ay)(j:Nat)(L:AE)(t:AH)(n:Prop):Prop:=
 ∀a b c d e f g,x.St a (Pi (x.acc i++(r.take j).map (C6 x.PL))) x.PL t->a.length<=3+3*i+j->L=x.Lc m (some (.obj l)) b c d e f g->n
def J3(m:Int)(i:Nat)(l:Addr)(r:List Ay)(j:Nat)(L:AE)(t:AH):Prop:=Ch (x.tA m i l r j L t)
variable{x}{as:List Addr}{P:AM}{zm:List Ap}{f:List Int}{A7 CH:AH}{R:Ap}
def St.Ao(s:x.St as P f A7)(k:KP M0 A7 CH):x.St as P f CH:=
 (λZ B=>B (s.kp.trans (k.mono λZ Z w=>w.elim)) (s.pv.kp k (λZ w=>w) (λw=>w)) (k.A1 _ _ s.hf (λw=>w)) s.fr)
def St.mark(s:x.St as P f t)(h:as.getLast?=some a):x.St as {P with AG:=Fo P.AG} f (t.uF a 7 (.bool true)):=
 (λZ B=>B (s.kp.trans (KP.BK (.inl (.inr (s.fr a (List.mem_of_getLast? h)))))) (s.pv.mark h) s.hf s.fr)
def St.push(s:x.St as P f A7)(l:List Int):x.St as P l (A7.uL x.pl (l.map .int)):=
 (λZ B=>B (s.kp.trans (KP.AX (.inl (.inr x.t8)))) (s.pv.kp (M:=λp a=>match p with| .l=>a=x.pl| _=>False) (KP.AX (.inl rfl)) (λZ w=>w) (λw=>x.nil w)) AY s.fr)
def St.put(s:x.St as P f A7){g:Nat}{v:AV}{p:AM}(h:CV (A7.uF x.p g v) x.p x.il as p):x.St as p f (A7.uF x.p g v):=(λZ B=>B (s.kp.trans (KP.BK (.inl (.inr x.fp)))) h s.hf s.fr)
inductive TV(as:List Addr)(P:AM)(f:List Int)(R:Ap)(i:Addr)(A7:AH):Prop
 | mk:x.St as P f A7->room (as.map AV.obj).length->x.St (as++[i]) {P with AG:=P.AG++[R]} f (A7.uL x.il (as.map .obj++[.obj i]))->TV as P f R i A7
def Ot:x.PL.length=3:=t7 _ _ _ x.Oo x.MY
def TX:BF 0 (x.PL.map AV.int).length=some 0:=DW (Dm (Int.le_refl _) (by rw[x.Ot];decide))
def get(h:n<3):(x.PL.map AV.int)[n]?=some (.int (x.PL.getD n 0)):=Ja (by rw[x.Ot];exact h)
end EA
section
variable{I:Ag}(S:AU I Om){Q:PE}{x:EA Q}{as:List Addr}{P:AM}{f:List Int}{A7:AH}{m:Int}{a b c d e f g:Option AV}
include S
def MZ{f:List Int}{A:List AV}{R:Ap}{Q:PE}(s:x.St as P f A7)(M:as.length<=100)(E:R.last=false)(j:∀i,IZ 7 IY (.obj i::A)=some [.obj i,.int R.op,.int R.out,.int R.arg,.int R.B1,.int R.Ax,.bool R.fold])(h:∀t i,x.TV as P f R i t->Q (.obj i) t):I.spec 16 A Q A7:=by
 haveI g:AU I Gx:=S.dr 4;refine sp_i (g.g 16 rfl) (ZG j E λF i k1 fi C T Z=>?_);haveI D:=s.Ao k1;have n:i∉as:=λH=>by have:=s.pv.pv.Ei H;exact nO this fi.1
 haveI G:=s.kp.live _ fi;refine h F i ⟨D,rm (BE M (AN rfl)),λZ B=>B (D.kp.trans (KP.AX (.inl (.inr x.BA)))) (D.pv.push C T n) ((BI (C1 x.nil)).trans D.hf) (λa H=>?_)⟩;rcases Bq.1 H with w| w
 ·exact s.fr a w
 ·rw[Az.1 w];exact G
theorem tC(s:x.St as (Ex x.lp x.rs) x.PL t):AP I (FD.drop 7) (BB Q) (x.Lc m a b c d e f g) t:=by
 haveI G:∀(T:AH) (z:Addr),x.St as (Ex x.lp x.rs) x.PL T->AP I (FD.drop 8) (BB Q) (x.Lc m a b c d e f g) (T.uF x.p 15 (.obj z)):=λT z S=>by
  haveI P:=S.put (S.pv.A4 (P':=Ex x.lp x.rs) (f:=15) (v:=.obj z) trivial rfl rfl rfl rfl (.inr (.inr ⟨.inr rfl,rfl,rfl⟩)));exists P.pv.pv.cls,by decide
  haveI D:=P.put (P.pv.A4 (P':=Ex x.lp x.rs) (f:=14) (v:=.bool true) trivial rfl rfl rfl rfl (.inr (.inr ⟨.inl rfl,rfl,rfl⟩)));exact x.hq _ as D.kp.drop D.pv
 haveI L:=x.Ot;haveI B:∀(l:List AV),l.length<=2->∀A,t.fresh A->pO ((t.uL A l).A1 A) λu=>pO ((t.uL A l).A1 x.pl) λw=>room (u.length+w.length)/\∀z,(t.uL A l).fresh z->pO (((t.uL A l).uL z (u++w)).cls x.p) λj=>EU j 15=true/\AP I (FD.drop 8) (BB Q) (x.Lc m a b c d e f g) (((t.uL A l).uL z (u++w)).uF x.p 15 (.obj z)):=λl H A h=>by
  exists AY,(BI (BQ h s.hf)).trans s.hf;refine A8 (by unfold room;rw[Ak,L];exact A3 0x23d09008340c000a04000441 [_] [] H) λz n=>?_;haveI S:=(s.Ao (KP.AX (l:=l) (.inr h.2.1))).Ao (KP.AX (l:=l++x.PL.map .int) (.inr n.2.1));exists S.pv.pv.cls,by decide
  exact G _ z S
 exact Cf (λg=>A8 (AN rfl) (B _ (AN rfl))) λg=>A8 (AN rfl) (B _ (AN rfl))
def tD(s:x.St as (EA.Pi (x.acc 3)) x.PL t):AP I (FD.drop 5) (BB Q) (x.Lc m a b c d e f g) t:=by
 haveI w:word 0:=BC (Ae 0x160013b9aca0030c00 [] []) (Ae 0xbee6b2800c300000 [] []);exists w,s.hf,x.TX,x.get (n:=0) (by decide),s.pv.pv.cls,by decide
 have o:=s.put (s.pv.A4 (P':=⟨x.acc 3,x.PL.getD 0 0,0,false,false,false⟩) (f:=9) (v:=.int (x.PL.getD 0 0)) trivial rfl rfl rfl rfl (.inl ⟨rfl,rfl,rfl⟩));haveI h:x.acc 3=DR x.lp x.rs:=by unfold DR EA.acc;rw[x.Oo,List.take_of_length_le (Nat.le_of_eq x.MY)]
 have F:∀lo:Int,lo=(Ex x.lp x.rs).loose->AP I (FD.drop 7) (BB Q) (x.Lc m a b c d e f g) ((t.uF x.p 9 (.int (x.PL.getD 0 0))).uF x.p 10 (.int lo)):=λlo A=>by
  haveI H:(⟨x.acc 3,x.PL.getD 0 0,lo,false,false,false⟩:AM)=Ex x.lp x.rs:=by rw[A,h];unfold Ex;rw[x.Oo]
  haveI j:=o.put (o.pv.A4 (P':=⟨x.acc 3,x.PL.getD 0 0,lo,false,false,false⟩) (f:=10) (v:=.int lo) trivial rfl rfl rfl rfl (.inr (.inl ⟨rfl,rfl,rfl⟩)));haveI j:=(H)▸j;exact tC S j
 refine Cf (λg=>?_) λg=>?_
 ·exists o.pv.pv.cls,by decide
  exact F 1 (A6 g).symm
 ·exists w,o.hf,x.TX,x.get (n:=0) (by decide),o.pv.pv.cls,by decide
  exact F _ ((AO (λl=>l.getD 0 0) x.Oo).symm.trans (A5 g).symm)
set_option tactic.hygienic true in
theorem ZS{i:Nat}{l:Addr}{r:List Ay}{K:Fl->AE->AH->Prop}{t:AH}(v:x.rs[i]?=some r)(D:∀L t,x.J2 m (i+1) L t->K .next L t)(s:x.St as (EA.Pi (x.acc i++D5 x.PL r)) x.PL t)(A:as.length<=3+3*(i+1)):
  AP I ((Bc FD 4).drop 2) K (x.Lc m (some (.obj l)) b c d e f g) t:=by
 haveI Q:as≠[]:=λe=>by
  haveI:=s.pv.pv.len;haveI this:=(e)▸this;haveI H:=List.append_eq_nil_iff.1 (List.length_eq_zero_iff.1 this.symm);have H:=H.2;unfold D5 at H;split at H
  ·cases H
  ·rename_i h;exact h (List.map_eq_nil_iff.1 H)
 obtain ⟨z,j⟩:∃z,as.getLast?=some z:=⟨_,Ik Q⟩;exists s.pv.pv.AG;refine(DX (BC (Ae 0x2c81013b9aca0030c00 [] []) (Ae 0x17dcd6500186408000 [] [])) s.pv.pv.A1 (Gk (sy j)) (Gl (List.getLast?_eq_getElem?.symm.trans j)) ?_:);exists s.pv.pv.Ei (List.mem_of_getLast? j),by decide
 haveI S:=s.mark j;haveI F:Fo (x.acc i++D5 x.PL r)=x.acc (i+1):=by
  unfold EA.acc;rw[List.take_add_one,v,Option.toList_some,List.foldl_append];rfl
 refine D _ _ (λZ B=>B as _ _ _ _ _ _ _ ?_ A rfl);refine(F)▸?_;exact S
def tE{i j:Nat}{l:Addr}{R:Ay}{r:List Ay}{K:Fl->AE->AH->Prop}{T:AH}(F:i<3)(p:j<2)(M:r[j]?=some R)(O:Cw R)(D:∀L T,x.J3 m i l r (j+1) L T->K .next L T)(s:x.St as (EA.Pi (x.acc i++(r.take j).map (C6 x.PL))) x.PL T)(A:as.length<=3+3*i+j):
  AP I (Bc (Bc FD 4) 0) K (x.Lc m (some (.obj l)) (some (.int R.op)) (some (.int R.out)) (some (.int R.arg)) (some (.int R.B1)) (some (.int R.Ax)) (some (.bool R.fold))) T:=by
 haveI E:(r.take j).map (C6 x.PL)++[C6 x.PL R]=(r.take (j+1)).map (C6 x.PL):=by rw[List.take_add_one,M,Option.toList_some,CX];rfl
 exists s.pv.pv.AG,s.pv.pv.A1;haveI G:∀t C,x.TV as (EA.Pi (x.acc i++(r.take j).map (C6 x.PL))) x.PL (C6 x.PL R) C t->x.J3 m i l r (j+1) (x.Lc m (some (.obj l)) (some (.int R.op)) (some (.int R.out)) (some (.int R.arg)) (some (.int R.B1)) (some (.int R.Ax)) (some (.bool R.fold))) (t.uL x.il (as.map .obj++[.obj C])):=λt C n=>by
  rcases n with⟨_,_,n⟩
  haveI n:x.St (as++[C]) (EA.Pi (x.acc i++(r.take j).map (C6 x.PL)++[C6 x.PL R])) x.PL (t.uL x.il (as.map .obj++[.obj C])):=n;rw[List.append_assoc,E] at n;exact(λZ B=>B _ _ _ _ _ _ _ n (by rw[CE];exact Nat.succ_le_succ A) rfl)
 haveI A0:as.length<=100:=CA 0x40c821802918021488020a1020a06608460004c3 [_,_,_] [] F p A;haveI H:=O.out;haveI e:∀out:Int,out=(C6 x.PL R).out->∀i,IZ 7 IY [.obj i,.int R.op,.int out,.int R.arg,.int R.B1,.int R.Ax,.bool R.fold]=some [.obj i,.int (C6 x.PL R).op,.int (C6 x.PL R).out,.int (C6 x.PL R).arg,.int (C6 x.PL R).B1,.int (C6 x.PL R).Ax,.bool (C6 x.PL R).fold]:=λout h i=>by rw[h];rfl
 refine Ai (λg=>?_) λg=>?_
 ·refine MZ S s A0 (R:=C6 x.PL R) rfl (e 0 (by unfold C6;simp only;rw[A6 g])) λt C n=>?_;exists n.1.pv.pv.A1,n.2,.inl rfl;exact D _ _ (G _ _ n)
 ·refine(DX (BC (A3 0xb0089dcd6500186e60c0012c0200040 [] [_] H) (A3 0x5f735940061804e60c0012c0200040 [] [_] H)) s.hf (DW (Dm H.1 (by rw[x.Ot];exact H.2))) (x.get (n:=R.out.toNat) (by haveI:=H.1;haveI:=H.2;exact A3 0x24602804e60c0012c0200040 [] [_] H)) ?_:);refine MZ S s A0 (R:=C6 x.PL R) rfl (e _ (by unfold C6;simp only;rw[A5 g])) λt C n=>?_;exists n.1.pv.pv.A1,n.2,.inl rfl;exact D _ _ (G _ _ n)
def tF{i:Nat}{l:Addr}{r:List Ay}{K:Fl->AE->AH->Prop}{A7:AH}(hi:i<3)(hl:x.ls[i]?=some l)(hr:x.rs[i]?=some r)(kn:∀L A7,x.J2 m (i+1) L A7->K .next L A7)(s:x.St as (EA.Pi (x.acc i)) x.PL A7)(H2:as.length<=3+3*i):
  AP I (Bc FD 4) K (x.Lc m (some (.obj l)) b c d e f g) A7:=by
 refine C9 (x.ZR i l r hl hr) λr1 r2 r3=>?_;exists Er (s.kp.drop.A1 _ _ r1 (λw=>w));refine DY (x.J3 m i l r) (λZ zK=>zK as _ _ _ _ _ _ (by rw[List.take_zero,List.map_nil,GR];exact s) H2 rfl) ?_ ?_ ?_
 ·intro j L A7 zz;refine zz _ λas b c d e f g s Z Z=>?_;exact s.kp.drop.A1 _ _ r1 (λw=>w)
 ·intro j v L A7 K2 hj zz hv kn _ _ _;refine zz _ λas b c d e f g s H2 y6=>?_;rcases y6 with rfl
  rw[Bb] at hv;refine AJ (BY.1 hv) λrow ZT Br=>?_;subst Br;rw[Ak] at hj;exact⟨_,rfl,tE S hi (Fv hj r2) ZT (r3 row (Bj ZT)) (λL A7 w=>kn L A7 w) s H2⟩
 ·intro L A7 zz;refine zz _ λas b c d e f g s H2 y5=>?_;rcases y5 with rfl
  rw[Ak] at H2;rw[Ak,List.take_length] at s;refine A8 (AN rfl) λz hz=>?_;have l1:=s.kp.drop.A1 _ _ r1 (λw=>w);haveI s2:=s.Ao (KP.AX (l:=[]) (.inr hz.2.1));exists (BI (BQ hz l1)).trans l1,AY,IB _;haveI hn:(r.map Bo=[])↔r=[]:=List.map_eq_nil_iff;refine Lf (λg=>?_) λg=>?_
  ·exists s2.pv.pv.AG,s2.pv.pv.A1;refine MZ S s2 (CA 0x40c821802918021408020a1020a06608460004c3 [_,_,_] [] hi r2 H2) (R:=FN) rfl (λZ=>rfl) λCH i' n=>?_;exists n.1.pv.pv.A1,n.2,.inl rfl;rcases n with⟨_,_,n⟩
   refine ZS S (as:=as++[i']) hr kn ?_ (by rw[CE,List.length_singleton];exact AK 0x420664040108c0808001408020a1020a06608460004c3 [_,_,_] [] r2 H2);unfold D5;rw[A6 (hn.1 g)];rw[hn.1 g,List.map_nil,GR] at n;exact n
  ·refine ZS S (as:=as) hr kn ?_ (AK 0x840cc80802118001408020a1020a06608460004c3 [_,_,_] [] r2 H2);unfold D5;rw[A5 (λw=>g (hn.2 w))];exact s2
def ZU{t:AH}(s:x.St as (EA.Pi (GH x.lp (x.PL.getD 0 0))) x.PL t)(H:as.length<=3):AP I (FD.drop 4) (BB Q) (x.Lc m a none none none none none none) t:=by
 exists Er (s.kp.drop.A1 _ _ x.KV (λw=>w));refine DY (x.J2 m) (λZ B=>B as _ _ _ _ _ _ _ s H rfl) ?_ ?_ ?_
 ·intro i L t h;refine h _ λas a b c d e f g s Z Z=>?_;exact s.kp.drop.A1 _ _ x.KV (λw=>w)
 ·intro i v L t K F h p D _ _ _;refine h _ λas a b c d e f g s H Y=>?_;rcases Y with rfl
  rw[Bb] at p;refine AJ (BY.1 p) λl M A=>?_;subst A;rw[Ak,x.Oq] at F;exact⟨_,rfl,tF S (by rw[<-x.MY];exact F) M (Aw F) (λL t w=>D L t w) s H⟩
 ·intro L t h;refine h _ λas a b c d e f g s Z y=>?_;rcases y with rfl
  rw[Ak,x.Oq,x.MY] at s;exact tD S s
def tG{C:Addr}{t:AH}(s:x.St [C] (EA.Pi [{FN with last:=true}]) x.PL t):AP I (FD.drop 3) (BB Q) (x.Lc m a none none none none none none) t:=by
 haveI w:word 0:=BC (Ae 0x160013b9aca0030c00 [] []) (Ae 0xbee6b2800c300000 [] []);refine Cf (λg=>?_) λg=>?_
 ·exists s.pv.pv.AG,s.pv.pv.A1,w,s.hf,x.TX,x.get (n:=0) (by decide);refine MZ S s (AN rfl) (R:=⟨5,x.PL.getD 0 0,0,0,0,false,false⟩) rfl (λZ=>rfl) λA T n=>?_;exists n.1.pv.pv.A1,n.2,.inl rfl;obtain ⟨_,_,s1⟩:=n;exists s1.pv.pv.AG,s1.pv.pv.A1;refine MZ S s1 (AN rfl) (R:=⟨1,1,0,0,255,false,false⟩) rfl (λZ=>rfl) λB d N=>?_;exists N.1.pv.pv.A1,N.2,.inl rfl;rcases N with⟨_,_,s2⟩
  exists s2.pv.pv.AG,BC (Ae 0x162013b9aca0030c00 [] []) (Ae 0xbee6b2800c310000 [] []),s2.pv.pv.A1,(rfl:BF 2 (([C]++[T]++[d]).map AV.obj).length=some 2),(rfl:(([C]++[T]++[d]).map AV.obj)[2]?=some (.obj d)),s2.pv.pv.Ei (GN _ (Az.2 rfl)),by decide
  haveI j:=s2.mark (a:=d) rfl;refine ZU S (as:=[C]++[T]++[d]) ?_ (AN rfl);unfold GH;rw[A6 g];exact j
 ·refine ZU S (as:=[C]) ?_ (AN rfl);unfold GH;refine(A5 g).symm▸?_;exact s
def ZV{C:Addr}{t:AH}(s:x.St [C] (EA.Pi [FN]) [] t)(R:H0 m x.rs=x.PL):AP I (FD.drop 1) (BB Q) (x.Lc m none none none none none none none) t:=by
 haveI W:word 0:=BC (Ae 0x160013b9aca0030c00 [] []) (Ae 0xbee6b2800c300000 [] []);exists s.pv.pv.AG,W,s.pv.pv.A1,(rfl:BF 0 ([C].map AV.obj).length=some 0),(rfl:([C].map AV.obj)[0]?=some (.obj C)),s.pv.pv.Ei (Az.2 rfl),by decide
 haveI s:=s.mark (a:=C) rfl;exists Er (s.kp.drop.A1 _ _ x.KV (λw=>w));refine DY (x.J1) (λZ B=>B C m [] none s rfl R rfl) ?_ ?_ ?_
 ·intro i L t c;refine c _ λC m f a s Z Z Z=>?_;exact s.kp.drop.A1 _ _ x.KV (λw=>w)
 ·intro i v L t K F c p D _ _ _;refine c _ λC m f a s H h Y=>?_;rcases Y with rfl
  rw[Bb] at p;refine AJ (BY.1 p) λl N E=>?_;subst E;rw[Ak,x.Oq] at F;haveI A:=Aw F;generalize x.rs[i]=r at A;refine C9 (x.ZR i l r N A) λr1 r2 r3=>?_;rw[F9 A,ZP] at h;refine⟨_,rfl,?_⟩;haveI M:f.length<=3:=by rw[H,<-x.MY];exact Nat.le_of_lt F
  exists s.hf,s.hf,rm (BE M (AN rfl)),.inl rfl;haveI o:=s.push (f++[m]);haveI e:(f++[m]).map AV.int=f.map .int++[.int m]:=CX;rw[e] at o;refine Or.inl (Exists.intro _ (A8 (o.kp.drop.A1 _ _ r1 (λw=>w)) (A8 (rm (BE r2 (AN rfl))) (A8 trivial (D _ _ (λZ B=>B C (m+max 1 ((r.map Bo).length:Int)) (f++[m]) _ o (by rw[CE,H];rfl) (by rw[Ak,List.append_assoc];exact h) rfl))))))
 ·intro L t c;refine c _ λC m f a s H h y=>?_;rcases y with rfl
  rw[Ak,x.Oq,Fx,sr,GR] at h;haveI s:=(h)▸s;exact tG S s
def tH:Vc I 2 10 FD TU:=λd Q G h=>by
 apply Bh h;clear h;intro K _ H;apply O3 H;clear H;intro l _ H;apply DM H;clear H;intro H;refine⟨rfl,?_⟩;obtain ⟨ls,rs,n,B,V,D,R⟩:=H;haveI j:AU I Gx:=S.dr 4;refine sp_i (j.g 19 rfl) (sq λt p C c k1 F BA m P=>?_);refine A8 (AN rfl) λpl f=>?_;let x:EA Q:=⟨G,K,p,C,pl,l,ls,rs,_,rfl,n,B,V,D,F,BA,k1.live _ f,BQ f P.pv.A1,λA0 A k v=>R A0 p C A k F v⟩
 haveI s:x.St [c] (EA.Pi [FN]) [] (t.uL pl []):=by
  haveI k2:KP M0 t (t.uL pl []):=KP.AX (.inr f.2.1);exact(λZ E=>E ((k1.trans k2).mono λZ Z w=>w.elim) (P.kp k2 (λZ w=>w) (λw=>w)) AY (λa L=>by rw[Az.1 L];exact m))
 refine Cf (λg=>A8 (AN rfl) ?_) λg=>A8 (AN rfl) ?_
 ·exact ZV S (x:=x) s (by refine(?_:H0 3 rs=Be l rs);unfold Be;rw[A6 g])
 ·exact ZV S (x:=x) s (by refine(?_:H0 1 rs=Be l rs);unfold Be;rw[A5 g])
end
noncomputable def core (R:Ap):Ap:={R with last:=false}
def Ou(l:List Ap):(Fo l).map core=l.map core:=by
 unfold Fo;cases h:l.getLast? with
 | none=>rfl
 | some R=>
  simp only;have H:l≠[]:=by rintro rfl;simp at h
  haveI e:l=l.dropLast++[R]:=by
   haveI:=List.dropLast_concat_getLast H;rw[Ik H] at h;cases h;exact this.symm
  conv=>rhs;rw[e]
  simp[core]
def zo(l:List Ap):(Fo l).length=l.length:=by
 haveI:=AO List.length (Ou l);simpa using this
def TY(pl:List Int)(r:List Ay):(D5 pl r).map core=D5 pl r:=by
 unfold D5;split
 ·rfl
 ·rw[List.map_map];rfl
def Ov(l:Bool)(r r1 r2:List Ay):(DR l [r,r1,r2]).map core=(GH l ((Be l [r,r1,r2]).getD 0 0)).map core++D5 (Be l [r,r1,r2]) r++D5 (Be l [r,r1,r2]) r1++D5 (Be l [r,r1,r2]) r2:=by
 unfold DR;simp only[List.foldl_cons,List.foldl_nil];rw[Ou,CX,TY,Ou,CX,TY,Ou,CX,TY]
set_option tactic.hygienic true in
def Ow(pl:List Int)(r:List Ay):((D5 pl r).length:Int)=max 1 (r.length:Int):=by
 unfold D5;split
 ·rename_i h;rw[h];rfl
 ·rename_i h;haveI:=List.length_pos_iff.2 h;rw[Ak];exact A3 0xd59401080a00a40100041 [_] [] this
def tJ(l:Bool)(r r1 r2:List Ay):((DR l [r,r1,r2]).length:Int)=(if l=true then 3 else 1)+max 1 (r.length:Int)+max 1 (r1.length:Int)+max 1 (r2.length:Int):=by
 haveI:=AO List.length (Ov l r r1 r2);simp only[List.length_map,List.length_append] at this;rw[this];haveI a:=Ow (Be l [r,r1,r2]) r;haveI b:=Ow (Be l [r,r1,r2]) r1;haveI c:=Ow (Be l [r,r1,r2]) r2;haveI d:((GH l ((Be l [r,r1,r2]).getD 0 0)).length:Int)=if l=true then 3 else 1:=by unfold GH;split<;>rfl
 push_cast
 exact Kj 0xd42ca608408594a10810b290210004828c282882828425005ab29021014216aca508405105ab298210146168045005c7 [_,_,_,_,_,_,_] [_] a b c d
def tK(l:Bool)(r r1 r2:List Ay):Be l [r,r1,r2]=[if l=true then 3 else 1,(if l=true then 3 else 1)+max 1 (r.length:Int),(if l=true then 3 else 1)+max 1 (r.length:Int)+max 1 (r1.length:Int)]:=rfl
def H3(r:List Ay):Prop:=r.length<=2/\∀x∈r,Cw x
def Ma:H3 [Cj]:=⟨by exact AN rfl,λx h=>by
 haveI:x=Cj:=Az.1 h;rw[this];exact(λZ B=>B (by decide) (by decide) (by decide) (by decide))⟩
set_option tactic.hygienic true in
def Ox{v r1 r2:List Ay}(h:R∈DR l [v,r1,r2]):
  (R.op=6/\R.out=0/\R.arg=0)\/(R.op=5/\R.out=(Be l [v,r1,r2]).getD 0 0/\R.arg=0)\/(l=true/\R.op=1/\R.out=1/\R.arg=0/\R.B1=0/\R.Ax=255/\R.fold=false)\/
  ∃f,(f∈v\/f∈r1\/f∈r2)/\core R=C6 (Be l [v,r1,r2]) f:=by
 haveI H:core R∈(DR l [v,r1,r2]).map core:=HC h;rw[Ov] at H;have S:∀r,core R∈D5 (Be l [v,r1,r2]) r->(R.op=6/\R.out=0/\R.arg=0)\/∃f∈r,core R=C6 (Be l [v,r1,r2]) f:=λr t=>by
  unfold D5 at t;split at t
  ·haveI:core R=FN:=Az.1 t;left;exact⟨AO Ap.op this,AO Ap.out this,AO Ap.arg this⟩
  ·refine AJ (DT.1 t) λf Q m=>?_;exact .inr ⟨f,Q,m.symm⟩
 rcases Bq.1 H with H| H
 ·obtain H| H:=Bq.1 H
  ·obtain H| H:=Bq.1 H
   ·unfold GH at H;split at H
    ·rename_i g;simp only[List.map_cons,List.map_nil,List.mem_cons,List.not_mem_nil,or_false] at H;rcases H with H| H| H
     ·exact .inl ⟨AO Ap.op H,AO Ap.out H,AO Ap.arg H⟩
     ·exact .inr (.inl ⟨AO Ap.op H,AO Ap.out H,AO Ap.arg H⟩)
     ·exact .inr (.inr (.inl ⟨g,AO Ap.op H,AO Ap.out H,AO Ap.arg H,AO Ap.B1 H,AO Ap.Ax H,AO Ap.fold H⟩))
    ·simp only[List.map_cons,List.map_nil,List.mem_cons,List.not_mem_nil,or_false] at H;exact .inl ⟨AO Ap.op H,AO Ap.out H,AO Ap.arg H⟩
   ·rcases S _ H with w| ⟨f,a,b⟩
    ·exact .inl w
    ·exact .inr (.inr (.inr ⟨f,.inl a,b⟩))
  ·obtain w| ⟨f,a,b⟩:=S _ H
   ·exact .inl w
   ·exact .inr (.inr (.inr ⟨f,.inr (.inl a),b⟩))
 ·obtain w| ⟨f,a,b⟩:=S _ H
  ·exact .inl w
  ·exact .inr (.inr (.inr ⟨f,.inr (.inr a),b⟩))
def tL{v r1 r2:List Ay}(h:f∈v\/f∈r1\/f∈r2):∃R∈DR lp [v,r1,r2],core R=C6 (Be lp [v,r1,r2]) f:=by
 haveI C:C6 (Be lp [v,r1,r2]) f∈(DR lp [v,r1,r2]).map core:=by
  rw[Ov];have S:∀r,f∈r->C6 (Be lp [v,r1,r2]) f∈D5 (Be lp [v,r1,r2]) r:=λr H=>by
   unfold D5;rw[A5 (by rintro rfl;cases H)];exact HC H
  rcases h with h| h| h
  ·exact Fu _ (Fu _ (GN _ (S _ h)))
  ·exact Fu _ (GN _ (S _ h))
  ·exact GN _ (S _ h)
 refine AJ (DT.1 C) λR a b=>?_;exact⟨R,a,b⟩
def tM(h:l≠[]):∃R,(Fo l).getLast?=some R/\R.last=true:=by
 unfold Fo;refine(Ik h).symm▸?_;simp
def tO{z a b c N o:Int}(H:N=z+max 1 a+max 1 b+max 1 c)(e:1<=z)(h:o=0\/o=1\/o=2):0<=[z,z+max 1 a,z+max 1 a+max 1 b].getD o.toNat 0/\[z,z+max 1 a,z+max 1 a+max 1 b].getD o.toNat 0<N:=by
 haveI L:=Int.le_max_left 1 a;haveI d:=Int.le_max_left 1 b;haveI C:=Int.le_max_left 1 c;generalize max 1 a=x at*;generalize max 1 b=y at*;generalize max 1 c=w at*;rcases h with rfl| rfl| rfl
 ·exact(⟨by omega,by omega⟩:0<=z/\z<N)
 ·exact(⟨by omega,by omega⟩:0<=z+x/\z+x<N)
 ·exact(⟨by omega,by omega⟩:0<=z+x+y/\z+x+y<N)
def tP{l:Bool}{r r1 r2:List Ay}(C:H3 r)(Q:H3 r1)(m:H3 r2){P:AM}(F:P.AG=DR l [r,r1,r2])(x:P.start=(Ex l [r,r1,r2]).start)(M:P.loose=(Ex l [r,r1,r2]).loose):P.Ok:=by
 haveI hlen:=tJ l r r1 r2;haveI o:=tK l r r1 r2;have N:=C.1;have V:=Q.1;have A0:=m.1;have h:(if l=true then(3:Int) else 1)<=3/\1<=(if l=true then(3:Int) else 1):=by split<;>(first| lia| omega)
 haveI j:l=true->(if l=true then(3:Int) else 1)=3:=λg=>(A6 g);rw[<-F] at hlen;haveI get:∀i:Int,0<=i->i<P.AG.length->P.get i∈P.AG:=λi a b=>by
  unfold AM.get;rw[C4,Aw (by exact AK 0x24012804b008006140100841 [_] [_] a b)];exact Fw _
 have G:(Be l [r,r1,r2]).getD 0 0=(if l=true then 3 else 1):=by rw[o];rfl
 refine(λZ B=>B (by exact Kk 0x450000b50b28c21021651042042ca10840011401408010a0401050200c2e5804102c6000904 [_,_,_,_] [_] hlen N V A0 h) (by exact AK 0x9004006a1651842042ca20840859421080022802e5804102c6000904 [_,_,_,_] [_] hlen h) (λi a b c=>?_) (λi a b=>?_) ?_ ?_ (λi a b=>?_))
 ·obtain ⟨R,q1,v⟩:∃R,P.AG.getLast?=some R/\R.last=true:=by
   rw[F];unfold DR;simp only[List.foldl_cons,List.foldl_nil];refine tM (λe=>?_);haveI:=AO List.length e;haveI s:=Ow (Be l [r,r1,r2]) r2;simp only[List.length_append,List.length_nil] at this
   (first| lia| omega)
  have:i≠(P.AG.length-1:Nat):=by
   intro A;rcases A with rfl
   unfold AM.get at c;haveI q1:=(List.getLast?_eq_getElem?)▸q1;rw[C4,Int.toNat_natCast,q1] at c;simp[v] at c
  exact CA 0x614014040012c020018500402234a90800100841 [_] [_] a b this
 ·have H:=get i a b;rw[F] at H;rcases Ox H with w| w| w| ⟨row,t,w⟩
  ·rw[w.2.1];exact AK 0xe61401001600000b008006140100841 [_] [_] a b
  ·rw[w.2.1,G];exact AK 0x730a00804b008006a1651842042ca20840859421080022802e5804102c6000904 [_,_,_,_] [_] hlen h
  ·rw[w.2.2.1];have:=j w.1;exact AK 0x1cc2802102c20001a8594610810b288210216508420008a00b46000904 [_,_,_,_] [_] hlen this
  ·have E:(core (P.get i)).out=(C6 (Be l [r,r1,r2]) row).out:=AO Ap.out w;have e:(P.get i).out=(C6 (Be l [r,r1,r2]) row).out:=E;haveI n:Cw row:=t.elim (C.2 _) λq=>q.elim (Q.2 _) (m.2 _);have U:=n.out;rw[e];unfold C6;simp only;split
   ·exact AK 0xe61401001600000b008006140100841 [_] [_] a b
   ·(refine(o).symm▸?_;try (with_reducible rfl))
    haveI:row.out=0\/row.out=1\/row.out=2:=by exact A3 0x1ef6880013420009a00004e60c0012c0200040 [] [_] U
    exact tO hlen h.2 this
 ·rw[x];refine(?_:0<=(Be l [r,r1,r2]).getD 0 0/\(Be l [r,r1,r2]).getD 0 0<_);rw[G];exact AK 0x730a00804b008006a1651842042ca20840859421080022802e5804102c6000904 [_,_,_,_] [_] hlen h
 ·rw[M];refine(?_:0<=(if l=true then 1 else(Be l [r,r1,r2]).getD 0 0)/\(if l=true then 1 else(Be l [r,r1,r2]).getD 0 0)<_)
  (refine(G).symm▸?_;try (with_reducible rfl))
  split<;>exact AK 0x730a00840b080006a1651842042ca20840859421080022802e5804102c6000904 [_,_,_,_] [_] hlen h
 ·have H:=get i a b;rw[F] at H;rcases Ox H with w| w| w| ⟨row,t,w⟩
  ·rw[w.2.2];exact Ae 0x39820086002c0000000 [] []
  ·rw[w.2.2];exact Ae 0x39820086002c0000000 [] []
  ·rw[w.2.2.2.1];exact Ae 0x39820086002c0000000 [] []
  ·have E:(core (P.get i)).arg=(C6 (Be l [r,r1,r2]) row).arg:=AO Ap.arg w;have e:(P.get i).arg=row.arg:=E;have n:Cw row:=t.elim (C.2 _) λq=>q.elim (Q.2 _) (m.2 _);rw[e];exact n.arg
def TZ{K:List Int}{k x:Int}:x∈DZ K k↔x∈K\/x=k:=by
 unfold DZ;split
 ·constructor
  ·exact .inl
  ·rintro (h| rfl)<;>assumption
 ·simp
set_option tactic.hygienic true in
def Mb{K:List Int}{lo H x:Int}:x∈As K lo H↔x∈K\/x=lo\/(H<255/\x=H+1):=by
 unfold As;split
 ·rename_i h;rw[TZ,TZ];constructor
  ·rintro ((a| a)| a)
   ·exact .inl a
   ·exact .inr (.inl a)
   ·exact .inr (.inr ⟨h,a⟩)
  ·rintro (a| a| a)
   ·exact .inl (.inl a)
   ·exact .inl (.inr a)
   ·exact .inr a.2
 ·rename_i h;rw[TZ];constructor
  ·rintro (a| a)
   ·exact .inl a
   ·exact .inr (.inl a)
  ·rintro (a| a| a)
   ·exact .inl a
   ·exact .inr a
   ·exact Ad a.1 h
abbrev iC(R:Ap)(x:Int):Prop:=mC R.op R.arg R.B1 R.Ax R.fold x
set_option tactic.hygienic true in
def tQ{K:List Int}{lo H x:Int}:x∈IE K lo H↔x∈K\/(x=lo\/(H<255/\x=H+1))\/(lo<=90/\65<=H/\(x=65\/x=91))\/(max lo 97<=min H 122/\(x=max lo 97-32\/x=min H 122-32+1)):=by
 unfold IE;simp only;haveI Q:∀kb:List Int,x∈(if max lo 97<=min H 122 then As kb (max lo 97-32) (min H 122-32) else kb)↔x∈kb\/(max lo 97<=min H 122/\(x=max lo 97-32\/x=min H 122-32+1)):=λkb=>by
  split
  ·rename_i h;rw[Mb];constructor
   ·rintro (a| a| a)
    ·exact .inl a
    ·exact .inr ⟨h,.inl a⟩
    ·exact .inr ⟨h,.inr a.2⟩
   ·rintro (a| ⟨_,a| a⟩)
    ·exact .inl a
    ·exact .inr (.inl a)
    ·exact .inr (.inr ⟨by exact Ae 0x30ff10d210086a1e84300840 [] [_],a⟩)
  ·rename_i h;constructor
   ·exact .inl
   ·rintro (a| a)
    ·exact a
    ·exact Ad a.1 h
 rw[Q];haveI l:x∈(if lo<=90/\65<=H then As (As K lo H) 65 90 else As K lo H)↔x∈As K lo H\/(lo<=90/\65<=H/\(x=65\/x=91)):=by
  split
  ·rename_i h;rw[Mb];constructor
   ·rintro (a| a| a)
    ·exact .inl a
    ·exact .inr ⟨h.1,h.2,.inl a⟩
    ·exact .inr ⟨h.1,h.2,.inr a.2⟩
   ·rintro (a| ⟨_,_,a| a⟩)
    ·exact .inl a
    ·exact .inr (.inl a)
    ·exact .inr (.inr ⟨by exact Ae 0x30ff10c5a10c00 [] [],a⟩)
  ·rename_i h;constructor
   ·exact .inl
   ·rintro (a| a)
    ·exact a
    ·exact Ad ⟨a.1,a.2.1⟩ h
 rw[l,Mb];constructor
 ·rintro ((a| a)| a)
  ·rcases a with a| a
   ·exact .inl a
   ·exact .inr (.inl a)
  ·exact .inr (.inr (.inl a))
  ·exact .inr (.inr (.inr a))
 ·rintro (a| a| a| a)
  ·exact .inl (.inl (.inl a))
  ·exact .inl (.inl (.inr a))
  ·exact .inl (.inr a)
  ·exact .inr a
def tR{k p q A B:Prop}(o:p)(n:¬q):(k\/(p/\A)\/(q/\B))↔k\/A:=or_congr_right ((or_iff_left λw=>n w.1).trans (and_iff_right o))
def tS{k p q A B:Prop}(n:¬p)(o:q):(k\/(p/\A)\/(q/\B))↔k\/B:=or_congr_right ((or_iff_right λw=>n w.1).trans (and_iff_right o))
def tU{k p q A B:Prop}(n:¬p)(o:¬q):(k\/(p/\A)\/(q/\B))↔k:=or_iff_left λw=>w.elim (λw=>n w.1) λw=>o w.1
def ZW{b W:Prop}{_:Decidable b}{x:Int}{l m:List Int}(h:x∈m↔x∈l\/W):x∈(if b then l else m)↔x∈l\/(¬b/\W):=by
 by_cases g:b
 ·rw[A6 g];exact(or_iff_left λw=>w.1 g).symm
 ·rw[A5 g];exact h.trans (or_congr_right (and_iff_right g).symm)
def Mc{K:List Int}{lo H x:Int}(h:H<255):x∈As K lo H↔x∈K\/x=lo\/x=H+1:=Mb.trans (or_congr_right (or_congr_right (and_iff_right h)))
def tV{K:List Int}{R:Ap}{x:Int}:x∈E5 K R↔x∈K\/iC R x:=by
 unfold E5;by_cases o:R.op=1
 ·refine Iff.trans ?_ (tR o (λw=>Ad (o.symm.trans w) (by decide))).symm;rw[A6 o];cases h:R.fold with
  | true=>rw[A6 rfl,and_iff_right rfl];exact tQ
  | false=>rw[A5 (by decide)];exact Mb.trans (or_congr_right (or_iff_left λw=>CW w.1).symm)
 ·rw[A5 o];by_cases O:R.op=3
  ·refine Iff.trans ?_ (tS o O).symm;rw[A6 O];refine(ZW (W:=x=48\/x=58\/x=65\/x=91\/x=95\/x=96\/x=97\/x=123) ?_).trans ((or_congr_left (ZW (Mc (by decide)))).trans or_assoc);exact(Mc (by decide)).trans ((or_congr_left ((Mc (by decide)).trans ((or_congr_left ((Mc (by decide)).trans (or_congr_left (Mc (by decide))))).trans or_assoc))).trans (by simp only[or_assoc];exact Iff.rfl))
  ·rw[A5 O];exact(tU o O).symm
def tW(l:List Ap)(K:List Int)(x:Int):x∈l.foldl E5 K↔x∈K\/∃R∈l,iC R x:=by
 induction l generalizing K with
 | nil=>simp
 | cons R l C=>
  rw[Im,C,tV];constructor
  ·rintro ((a| a)| ⟨r,h,H⟩)
   ·exact .inl a
   ·exact .inr ⟨R,Dt ..,a⟩
   ·exact .inr ⟨r,GO _ h,H⟩
  ·rintro (a| ⟨r,h,H⟩)
   ·exact .inl (.inl a)
   ·rcases Co.1 h with rfl| h
    ·exact .inl (.inr H)
    ·exact .inr ⟨r,h,H⟩
def tX(l:List Ap)(x:Int):x∈marks l↔x=0\/∃R∈l,iC R x:=by
 unfold marks;rw[tW];simp
def Tc{K:List Int}(h:K.Nodup)(k:Int):(DZ K k).Nodup:=by
 unfold DZ;split
 ·exact h
 ·rw[List.nodup_append];refine⟨h,by simp,λa L b H=>?_⟩;haveI:b=k:=Az.1 H;subst this;intro A;rcases A with rfl
  contradiction
def Ho{K:List Int}(h:K.Nodup)(lo H:Int):(As K lo H).Nodup:=by
 unfold As;split
 ·exact Tc (Tc h _) _
 ·exact Tc h _
def tY{K:List Int}(h:K.Nodup)(lo H:Int):(IE K lo H).Nodup:=by
 unfold IE;haveI a:=Ho h lo H;haveI b:(if lo<=90/\65<=H then As (As K lo H) 65 90 else As K lo H).Nodup:=by
  split
  ·exact Ho a _ _
  ·exact a
 simp only;generalize (if lo<=90/\65<=H then As (As K lo H) 65 90 else As K lo H)=kb at b;split
 ·exact Ho b _ _
 ·exact b
def tZ{K:List Int}(h:K.Nodup)(R:Ap):(E5 K R).Nodup:=by
 unfold E5;by_cases o:R.op=1
 ·rw[A6 o];split
  ·exact tY h _ _
  ·exact Ho h _ _
 ·rw[A5 o];by_cases O:R.op=3
  ·rw[A6 O];haveI b:(if Ab R.arg (AQ 1 2)=0 then K else As K 10 10).Nodup:=by
    split
    ·exact h
    ·exact Ho h _ _
   simp only;generalize (if Ab R.arg (AQ 1 2)=0 then K else As K 10 10)=kb at b;split
   ·exact b
   ·exact Ho (Ho (Ho (Ho b _ _) _ _) _ _) _ _
  ·rw[A5 O];exact h
def td(l:List Ap):(marks l).Nodup:=by
 unfold marks
 suffices H:∀K:List Int,K.Nodup->(l.foldl E5 K).Nodup from H _ (by simp)
 induction l with
 | nil=>exact λZ h=>h
 | cons R l C=>exact λK h=>C _ (tZ h R)
noncomputable def wt (R:Ap):Nat:=if R.op=1\/R.op=3 then 10 else 0
set_option tactic.hygienic true in
def te(K:List Int)(R:Ap):(E5 K R).length<=K.length+wt R:=by
 unfold wt;split
 ·exact Y2 K R
 ·rename_i h;unfold E5;rw[A5 (λw=>h (.inl w)),A5 (λw=>h (.inr w))];exact Ae 0x1080000100441 [_] []
def tg(l:List Ap):(marks l).length<=1+(l.map wt).sum:=by
 unfold marks
 suffices H:∀K:List Int,(l.foldl E5 K).length<=K.length+(l.map wt).sum from H [0]
 induction l with
 | nil=>intro K;simp
 | cons R l C=>
  intro K;haveI:=C (E5 K R);haveI:=te K R;simp only[List.foldl_cons,List.map_cons,List.sum_cons];exact AK 0x842061104210050818481005081042120545 [_,_,_,_,_] [] (by assumption) this
def ti(l:List Ap):(l.map wt).sum=((l.map core).map wt).sum:=by rw[List.map_map];rfl
set_option tactic.hygienic true in
def ZX(pl:List Int)(r:List Ay):((D5 pl r).map wt).sum<=10*r.length:=by
 unfold D5;split
 ·rename_i h;rw[h];decide
 ·rename_i h;clear h;induction r with
  | nil=>simp
  | cons a r C=>
   haveI:wt (C6 pl a)<=10:=by unfold wt;split<;>(first| lia| omega)
   simp only[List.map_cons,List.sum_cons,List.length_cons];exact AK 0x2146404020a0210050a308210a140004c3 [_,_,_] [] C this
def ZY{r r1:List Ay}(h:H3 r)(H:H3 r1):(marks (DR l [r,r1,[Cj]])).length<64:=by
 haveI a:=tg (DR l [r,r1,[Cj]]);rw[ti,Ov] at a;simp only[List.map_append,List.sum_append] at a;haveI b:=ZX (Be l [r,r1,[Cj]]) r;haveI c:=ZX (Be l [r,r1,[Cj]]) r1;haveI d:((D5 (Be l [r,r1,[Cj]]) [Cj]).map wt).sum=0:=rfl;haveI e:(((GH l ((Be l [r,r1,[Cj]]).getD 0 0)).map core).map wt).sum<=10:=by
  unfold GH;split
  ·exact Nat.le_refl 10
  ·exact Nat.zero_le _
 have:=h.1;haveI:=H.1
 (first| lia| omega)
def ZZ:x∈insI a l↔x=a\/x∈l:=by
 induction l with
 | nil=>exact Co
 | cons b l C=>
  rw[It];split
  ·simp
  ·rw[Co,C,Co];constructor
   ·rintro (h| h| h)
    ·exact .inr (.inl h)
    ·exact .inl h
    ·exact .inr (.inr h)
   ·rintro (h| h| h)
    ·exact .inr (.inl h)
    ·exact .inl h
    ·exact .inr (.inr h)
def Za:x∈sortI l↔x∈l:=by
 induction l with
 | nil=>exact Iff.rfl
 | cons a l C=>
  refine(?_:x∈insI a (sortI l)↔_);rw[ZZ,C,Co]
def tj(h:l.Pairwise (· < ·))(n:a∉l):(insI a l).Pairwise (· < ·):=by
 induction l with
 | nil=>exact List.pairwise_singleton _ _
 | cons b l C=>
  rcases List.pairwise_cons.1 h with⟨Q,m⟩
  haveI N:a≠b:=λe=>n (by rw[e];exact Dt ..);rw[It];split
  ·refine List.pairwise_cons.2 ⟨λx H=>?_,h⟩;obtain rfl| H:=Co.1 H
   ·exact AK 0x181100446844012c2200880 [] [_,_] N (by assumption)
   ·haveI:=Q x H;exact AK 0xc088025884013022108c0 [] [_,_,_] (by assumption) this
  ·refine List.pairwise_cons.2 ⟨λx H=>?_,C m λw=>n (GO _ w)⟩;obtain rfl| H:=ZZ.1 H
   ·exact A3 0xc0880222c0208880 [] [_,_] (by assumption)
   ·exact Q x H
def tq(h:l.Nodup):(sortI l).Pairwise (· < ·):=by
 induction l with
 | nil=>exact List.Pairwise.nil
 | cons a l C=>
  refine Ac (λH m=>?_) (List.nodup_cons.1 h);exact tj (C m) λw=>H (Za.1 w)
def tu(h:l.Pairwise (· < ·)):sortI l=l:=by
 induction l with
 | nil=>rfl
 | cons a l C=>
  refine Ac (λH m=>?_) (List.pairwise_cons.1 h);refine(?_:insI a (sortI l)=_);refine(C m).symm▸?_;cases l with
  | nil=>rfl
  | cons b l=>
   rw[It];rw[A6 (by haveI:=H b (Dt ..);exact A3 0x584401302200880 [] [_,_] this)]
def tv(P:AM)(c:List Int)(l:Prop):Prop:=
 (c.length<64)->(c.Pairwise (· < ·))->(∃r,c=0::r)->(∀x,x∈c↔x=0\/∃R∈P.AG,iC R x)->(∀x∈c,0<=x/\x<=255)->l
def Ds(P:AM)(c:List Int):Prop:=Ch (tv P c)
section
variable(zh:Ds P cs)
def Ds.len:=zh _ λz Z Z Z Z=>z
def Ds.Jh:=zh _ λZ z Z Z Z=>z
def Ds.hd:=zh _ λZ Z z Z Z=>z
def Ds.mem:=zh _ λZ Z Z z Z=>z
def Ds.KS:=zh _ λZ Z Z Z z=>z
end
def Zb{pl:List Int}(h:core R=C6 pl r)(x:Int):iC R x↔rC r x:=by
 haveI e:iC (core R) x↔rC r x:=by rw[h];exact Iff.rfl
 exact e
def Zc{r r1:List Ay}(H:H3 r)(Q:H3 r1)(h:R∈DR l [r,r1,[Cj]])(o:R.op=1):0<=R.B1/\R.B1<=R.Ax/\R.Ax<=255:=by
 obtain w| w| w| ⟨row,t,w⟩:=Ox h
 ·exact AK 0x39cb3fc43089611004b0080068402139cd0008268003134c010940 [] [_,_,_,_,_] o w
 ·exact AK 0x39cb3fc43089611004b0080068402139cd000a269043134a010980 [] [_,_,_,_,_,_] o w
 ·(first| lia| omega)
 ·haveI n:Cw row:=t.elim (H.2 _) λq=>q.elim (Q.2 _) (Ma.2 _);haveI e:R.op=row.op:=AO Ap.op w;haveI E:R.B1=row.B1:=AO Ap.B1 w;haveI T:R.Ax=row.Ax:=AO Ap.Ax w;rw[E,T];exact n.KS (by rw[<-e];exact o)
def tx{w r1:List Ay}(E:H3 w)(Q:H3 r1)(F:P.AG=DR l [w,r1,[Cj]]):Ds P (cutsOf P.AG):=by
 have S:∀x,x∈cutsOf P.AG↔x=0\/∃R∈P.AG,iC R x:=λx=>by
  unfold cutsOf;rw[Za,tX]
 have t:∀x∈cutsOf P.AG,0<=x/\x<=255:=λx W=>by
  obtain rfl| ⟨R,H,h⟩:=(S x).1 W
  ·exact Ae 0x3967f886002c0000000 [] []
  ·haveI H:=(F)▸H;obtain ⟨o,h⟩| ⟨o,h⟩:=h
   ·refine C9 (Zc E Q H o) λp D m=>?_;clear H S E Q;obtain (rfl| ⟨_,rfl⟩)| ⟨_,⟨_,_,rfl| rfl⟩| ⟨g,rfl| rfl⟩⟩:=h
    ·exact⟨p,Em D m⟩
    ·omega
    ·decide
    ·decide
    ·have L:=Int.le_max_right R.B1 97;have A:=Int.min_le_right R.Ax 122;generalize max R.B1 97=u at*;generalize min R.Ax 122=v at*;omega
    ·have L:=Int.le_max_right R.B1 97;have A:=Int.min_le_right R.Ax 122;generalize max R.B1 97=u at*;generalize min R.Ax 122=v at*;omega
   ·exact A3 0x72cff10c025804003dcf7bdef7bda3d88601346110c0268c021804d17c43009a2d88601344110c02687421804d0c0430088d0004273dab0004d5000223400088c0 [] [_,_,_] h
 haveI y:(cutsOf P.AG).Pairwise (· < ·):=tq (td _);refine(λZ B=>B ?_ y ?_ S t)
 ·unfold cutsOf;rw[JP,F];exact ZY E Q
 ·have z:=(S 0).2 (.inl rfl);cases h:cutsOf P.AG with
  | nil=>rw[h] at z;cases z
  | cons a r=>
   refine⟨r,?_⟩;rw[h] at z t y;rcases Co.1 z with e| e
   ·(refine(e)▸?_;try (with_reducible rfl))
   ·haveI:=(List.pairwise_cons.1 y).1 0 e;haveI:=t a (Dt ..)
    (first| lia| omega)
def split_le(c:List Int)(o:Int)(h:c.Pairwise (· < ·)):c.filter (λx=>decide (x<=o))=c.take (c.filter λx=>decide (x<=o)).length/\c.filter (λx=>decide (o<x))=c.drop (c.filter λx=>decide (x<=o)).length:=by
 induction c with
 | nil=>exact⟨rfl,rfl⟩
 | cons a c X=>
  refine Ac (λQ l=>?_) (List.pairwise_cons.1 h);refine Ac (λC d=>?_) (X l);by_cases g:a<=o
  ·have e:(a::c).filter (λx=>decide (x<=o))=a::c.filter λx=>decide (x<=o):=by rw[List.filter_cons,A6 (Bg g)]
   have E:(a::c).filter (λx=>decide (o<x))=c.filter λx=>decide (o<x):=by rw[List.filter_cons,A5 (by simp;exact A3 0x5844012c2200880 [] [_,_] g)]
   rw[e,E,List.length_cons,List.take_succ_cons,List.drop_succ_cons,<-C,<-d];exact⟨rfl,rfl⟩
  ·have e:(a::c).filter (λx=>decide (x<=o))=[]:=by
    rw[List.filter_eq_nil_iff];intro x H;obtain rfl| H:=Co.1 H
    ·simpa using g
    ·have:=Q x H;simp;exact AK 0x181100445804213022108c0 [] [_,_,_] g this
   have E:(a::c).filter (λx=>decide (o<x))=a::c:=by
    rw[List.filter_eq_self];intro x H;obtain rfl| H:=Co.1 H
    ·simp;exact A3 0xc0880222c0208880 [] [_,_] g
    ·have:=Q x H;simp;exact AK 0x181100445804213022108c0 [] [_,_,_] g this
   rw[e,E];exact⟨rfl,rfl⟩
def u1(c:List Int)(o:Int)(n:Int)(l:Prop):Prop:=
 (0<=n)->(n<c.length)->(CB c o=n)->(c.getD n.toNat 0<=o)->(o<=255->o<=FG c n)->(c.filter (λx=>decide (x<=o))=c.take (n.toNat+1))->(c.filter (λx=>decide (o<x))=c.drop (n.toNat+1))->l
def ClsAt(c:List Int)(o:Int)(n:Int):Prop:=Ch (u1 c o n)
section
variable(zh:ClsAt cs o n)
def ClsAt.n0:=zh _ λz Z Z Z Z Z Z=>z
def ClsAt.n1:=zh _ λZ z Z Z Z Z Z=>z
def ClsAt.eq:=zh _ λZ Z z Z Z Z Z=>z
def ClsAt.lo:=zh _ λZ Z Z z Z Z Z=>z
def ClsAt.hi:=zh _ λZ Z Z Z z Z Z=>z
def ClsAt.ins:=zh _ λZ Z Z Z Z z Z=>z
def ClsAt.u2:=zh _ λZ Z Z Z Z Z z=>z
end
set_option tactic.hygienic true in
def u3(K:Ds P c)(h:0<=o):ClsAt c o (CB c o):=by
 refine Ac (λS p=>?_) (split_le c o K.Jh);refine AW K.hd λr t=>?_;have f:0<(c.filter λx=>decide (x<=o)).length:=by
  rw[t,List.filter_cons,A6 (by exact Bg h)];simp
 haveI H:=List.length_filter_le (λx=>decide (x<=o)) c;generalize Q:(c.filter λx=>decide (x<=o)).length=k at S p f H;have e:CB c o=(k:Int)-1:=by unfold CB;rw[Q]
 have E:(CB c o).toNat+1=k:=by exact AK 0xa005010140248020035210140100841 [_] [_] f e
 haveI A:c.getD (CB c o).toNat 0<=o:=by
  haveI R:c[(CB c o).toNat]'(AK 0x12009402400210a8214040500882 [_,_] [_] H E)∈c.take k:=by
   rw[List.mem_take_iff_getElem];exact⟨(CB c o).toNat,by exact AK 0x95042009402404200a8014040500882 [_,_] [_] H E,rfl⟩
  rw[<-S] at R;rw[C4,Aw (by exact AK 0x12009402400210a8214040500882 [_,_] [_] H E)];exact Cb ((List.mem_filter.1 R).2)
 refine(λZ B=>B (by exact AK 0xb008006a42028020128014040500841 [_] [_] e E) (by exact AK 0x18500402400210a8214040500882 [_,_] [_] H E) rfl A (λC=>?_) (by rw[E];exact S) (by rw[E];exact p));unfold FG;split
 ·rename_i g;haveI R:c[(CB c o+1).toNat]'(AK 0x9004a8080026a42028420130a00a02000882 [_,_] [_] e g)∈c.drop k:=by
   rw[List.mem_drop_iff_getElem];exact⟨0,by exact AK 0x48428004006a42028020130a10a02000882 [_,_] [_] e g,by congr 1;exact A3 0x28a808002400000b5210140100841 [_] [_] e⟩
  rw[<-p] at R;haveI:=(List.mem_filter.1 R).2;rw[C4,Aw (by exact AK 0x9004a8080026a42028420130a00a02000882 [_,_] [_] e g)];simp at this⊢;exact A3 0x2d21004401302200880 [] [_,_] this
 ·exact C
def u4(h:CB I o=CB I m):∀c∈I,c<=o↔c<=m:=by
 haveI K:∀a b:Int,a<=b->CB I a=CB I b->∀c∈I,c<=b->c<=a:=λa b F e c H G=>by
  haveI E:(I.filter λx=>decide (x<=b)).filter (λx=>decide (x<=a))=I.filter λx=>decide (x<=a):=by
   rw[List.filter_filter];apply List.filter_congr;intro x _;by_cases g:x<=a
   ·haveI:x<=b:=AK 0xb088025844212c42008c0 [] [_,_,_] F g;simp[g,this]
   ·simp[g]
  haveI S:((I.filter λx=>decide (x<=b)).filter λx=>decide (x<=a)).length=(I.filter λx=>decide (x<=b)).length:=by
   refine(E).symm▸?_;unfold CB at e;exact A3 0x504200b521014214840500482 [_,_] [] e
  haveI T:=List.Sublist.eq_of_length (List.filter_sublist (l:=I.filter λx=>decide (x<=b)) (p:=λx=>decide (x<=a))) S;haveI R:c∈I.filter λx=>decide (x<=b):=List.mem_filter.2 ⟨H,by exact Bg G⟩;rw[<-T] at R;exact Cb ((List.mem_filter.1 R).2)
 intro c H;rcases Int.le_total o m with g| g
 ·exact⟨λw=>by exact AK 0xb088025844212c42008c0 [] [_,_,_] g w,K o m g h c H⟩
 ·exact⟨K m o g h.symm c H,λw=>by exact AK 0xb088025844212c42008c0 [] [_,_,_] g w⟩
set_option tactic.hygienic true in
def u5{P:AM}{c:List Int}(K:Ds P c){n m:Int}(h:0<=n)(H:n<c.length)(l:c.getD n.toNat 0<=m)(L:m<=FG c n):CB c m=n/\0<=m/\m<=255:=by
 haveI d:c.getD n.toNat 0∈c:=by
  rw[C4,Aw (by exact AK 0x24012804b008006140100841 [_] [_] h H)];exact Fw _
 haveI t:=K.KS _ d;haveI U:FG c n<=255:=by
  unfold FG;split
  ·haveI:c.getD (n+1).toNat 0∈c:=by
    rw[C4,Aw (by exact AK 0x9004a80800258040030a00a02000841 [_] [_] h (by assumption))];exact Fw _
   haveI:=K.KS _ this
   (first| lia| omega)
  ·exact Ae 0x2cff10cff10c00 [] []
 refine⟨?_,by(first| lia| omega),by exact AK 0xb3fc43009611004b3fc4308880 [] [_,_] L U⟩;haveI:=Xz (o:=m) K.Jh (lo:=n.toNat) (AK 0x24012804b008006140100841 [_] [_] h H) l ?_
 ·rw[this];exact A3 0x1a0114a012c0200040 [] [_] h
 ·unfold FG at L;split at L
  ·right;rename_i g;haveI:n.toNat+1=(n+1).toNat:=by exact A3 0x5150100048080a012c0200040 [] [_] h
   rw[this];(first| lia| omega)
  ·left;exact CA 0x50028080a012c020018500402230a00a02000841 [_] [_] h H (by assumption)
def H4(x y:Nat):Ab (x:Int) (y:Int)=((x&&& y:Nat):Int):=rfl
def Td(z:Int):Builtin.bitNot (Builtin.bitNot z)=z:=by unfold Builtin.bitNot;exact Ae 0x3402484044840400840 [] [_]
def Ib(x y:Nat):AQ (x:Int) (y:Int)=((x||| y:Nat):Int):=by
 have n:∀x:Nat,decide (0<=Builtin.bitNot (x:Int))=false:=λx=>C0 (by unfold Builtin.bitNot;exact Ae 0x45a4202140100041 [_] []);unfold AQ Builtin.bitOr Builtin.bitAnd;rw[n x,n y];refine(?_:Builtin.bitNot (Builtin.bitNot (((Builtin.bitNot (Builtin.bitNot (x:Int))).toNat||| (Builtin.bitNot (Builtin.bitNot (y:Int))).toNat:Nat):Int))=_);rw[Td,Td,Td];rfl
def Zd(h:a.testBit 0=true\/a.testBit 1=true)(e:a&&& 3=0):False:=
 h.elim (λh=>Ad ((Nat.testBit_and a 3 0).symm.trans (AO (Nat.testBit · 0) e)) (by rw[h];decide)) λh=>Ad ((Nat.testBit_and a 3 1).symm.trans (AO (Nat.testBit · 1) e)) (by rw[h];decide)
def u6(h:a.testBit 4=true\/a.testBit 5=true)(e:a&&& 48=0):False:=
 h.elim (λh=>Ad ((Nat.testBit_and a 48 4).symm.trans (AO (Nat.testBit · 4) e)) (by rw[h];decide)) λh=>Ad ((Nat.testBit_and a 48 5).symm.trans (AO (Nat.testBit · 5) e)) (by rw[h];decide)
noncomputable def Oy (b:Bool):Nat:=bif b then 2 else 0
noncomputable def rF (b:Bool):Nat:=bif b then 32 else 16
noncomputable def oF (b:Bool):Nat:=bif b then 1 else 0
noncomputable def pF (b c:Bool):Nat:=bif b then 5 else bif c then 1 else 0
noncomputable def Te (b c:Bool):Nat:=bif b then 10 else bif c then 2 else 0
def Ze:∀a,a<64->∀b c:Bool,(a&&& 3≠0->b=c)->a&&& Oy b=a&&& Oy c/\a&&& oF b=a&&& oF c:=by decide+kernel
def Zf:∀a,a<64->∀b c:Bool,(a&&& 48≠0->b=c)->a&&& rF b=a&&& rF c:=by decide+kernel
def Zg:∀a,a<64->∀d b c:Bool,(a&&& 3≠0->b=c)->a&&& pF d b=a&&& pF d c/\a&&& Te d b=a&&& Te d c:=by decide+kernel
def or3{a x y z X Y N:Nat}(h:a&&& x=a&&& X)(H:a&&& y=a&&& Y)(K:a&&& z=a&&& N):a&&& (x||| y||| z)=a&&& (X||| Y||| N):=by
 rw[Nat.and_or_distrib_left,Nat.and_or_distrib_left,h,H,K,<-Nat.and_or_distrib_left,<-Nat.and_or_distrib_left]
noncomputable def bX (g:Nat)(fe S:Bool):Nat:=g||| Oy fe||| rF S
def u9{fe S f e:Bool}(h:a<64)(H:a&&& 3≠0->fe=f)(l:a&&& 48≠0->S=e):a&&& bX g fe S=a&&& bX g f e:=
 or3 rfl (Ze a h _ _ H).1 (Zf a h _ _ l)
noncomputable def fN (fe w:Bool):Nat:=bif fe then 1 else bif w then 128 else 0
def Zh:(k.testBit 0=false->1&&& k=0)/\(k.testBit 7=false->128&&& k=0):=
 have g:∀i,k.testBit i=false->2^i&&& k=0:=λi h=>Nat.eq_of_testBit_eq λj=>by
  rw[Nat.testBit_and,Nat.testBit_two_pow,Nat.zero_testBit];by_cases e:i=j
  ·rw[<-e,h,Bool.and_false]
  ·rw[C0 e,Bool.false_and]
 ⟨g 0,g 7⟩
def Zi{fe W F m:Bool}(h:k.testBit 0=true->fe=F)(H:k.testBit 7=true->W=m)(n:fe=true->W=false)(N:F=true->m=false):fN fe W&&& k=fN F m&&& k:=by
 have c:fe=F\/1&&& k=0:=(Bool.eq_false_or_eq_true (k.testBit 0)).elim (λw=>.inl (h w)) λw=>.inr (Zh.1 w);have I:W=m\/128&&& k=0:=(Bool.eq_false_or_eq_true (k.testBit 7)).elim (λw=>.inl (H w)) λw=>.inr (Zh.2 w);clear h H;have f:∀a b,fN a b&&& k=bif a then 1&&& k else bif b then 128&&& k else 0:=λa b=>by cases a<;>cases b<;>first| rfl| exact Nat.zero_and k
 rw[f,f];generalize 1&&& k=x at c;generalize 128&&& k=y at I;clear f;cases fe<;>cases F<;>cases W<;>cases m<;>first| rfl| exact c.resolve_left (by decide)| exact(c.resolve_left (by decide)).symm| exact I.resolve_left (by decide)| exact(I.resolve_left (by decide)).symm| exact Ad (n rfl) (by decide)| exact Ad (N rfl) (by decide)| exact(c.resolve_left (by decide)).trans (I.resolve_left (by decide)).symm| exact(I.resolve_left (by decide)).trans (c.resolve_left (by decide)).symm
def Tf(o:Int)(h:o≠256):Bx o=((fN (decide (o=10)) (Bi o):Nat):Int):=by
 refine(A5 h).trans ?_;by_cases g:o=10
 ·rw[A6 g,Bg g];rfl
 ·rw[A5 g,C0 g];cases Bi o<;>rfl
def Oz(h:decide (o=10)=true):Bi o=false:=Cb h▸rfl
noncomputable def eF (B V c1 c w:Bool):Nat:=pF B V||| Te c1 c||| rF w
def eN (b c:Int):Nat:=eF (decide (b= -1)) (decide (b=10)) (decide (c= -1)) (decide (c=10)) (decide (Bi b=Bi c))
def uA:∀B V c1 c w,Xx B V c1 c w=((eF B V c1 c w:Nat):Int):=by decide+kernel
def uB(b c:Int):Lj b c=((eN b c:Nat):Int):=uA _ _ _ _ _
def uC{a:Nat}{b c B I:Int}(h:a<64)(d:b= -1↔B= -1)(C:c= -1↔I= -1)(H:a&&& 3≠0->(b=10↔B=10)/\(c=10↔I=10))(l:a&&& 48≠0->(Bi b=Bi c↔Bi B=Bi I)):a&&& eN b c=a&&& eN B I:=by
 unfold eN;rw[ES.2 d,ES.2 C];exact or3 (Zg a h _ _ _ λw=>ES.2 (H w).1).1 (Zg a h _ _ _ λw=>ES.2 (H w).2).2 (Zf a h _ _ λw=>ES.2 (l w))
def uD(a e:Nat):Ab (a:Int) (-(e:Int)-1)=(a:Int)-((a&&& e:Nat):Int):=by
 unfold Ab Builtin.bitAnd;haveI h:decide (0<=(a:Int))=true:=rfl;haveI H:decide (0<=-(e:Int)-1)=false:=by simp;exact Ae 0xc0808500441 [_] []
 rw[h,H];simp only[Builtin.bitNot];haveI E:(-(-(e:Int)-1)-1).toNat=e:=Ae 0xa004a9080890808500441 [_] [];rw[E];simp
def Zj(a:Nat)(t:List Int)(p:Int):Gn (a:Int) t p=decide (a&&& eN (Gm t p) (G6 t p)=a):=by
 unfold Gn;rw[uB,uD];haveI l:=Nat.and_le_left (n:=a) (m:=eN (Gm t p) (G6 t p));by_cases g:a=0
 ·subst g;simp
 ·haveI:decide ((a:Int)=0)=false:=by simp;exact A3 0x8a000012280000441 [_] [] g
  rw[this,Bool.false_or];apply ES.2
  (first| lia| omega)
def uE(l:List Ap)(L:∀R∈l,0<=R.arg)(x:Nat):∃A:Nat,l.foldl Gp (x:Int)=A/\∀i,A.testBit i=true->x.testBit i=true\/∃R∈l,R.op=3/\R.arg.toNat.testBit i=true:=by
 induction l generalizing x with
 | nil=>exact⟨x,rfl,λi h=>.inl h⟩
 | cons R l C=>
  haveI C:=C λR h=>L R (GO _ h);haveI E:=L R (Dt ..);by_cases g:R.op=3
  ·refine AJ (C (x||| R.arg.toNat)) λA e H=>?_;refine⟨A,?_,λi F=>?_⟩
   ·rw[<-e,Im];congr 1;unfold Gp;rw[A6 g,<-Ib,Hr E]
   ·obtain w| ⟨r,a,b⟩:=H i F
    ·rw[Nat.testBit_or,Bool.or_eq_true] at w;rcases w with w| w
     ·exact .inl w
     ·exact .inr ⟨R,Dt ..,g,w⟩
    ·exact .inr ⟨r,GO _ a,b⟩
  ·refine AJ (C x) λA e H=>?_;refine⟨A,?_,λi F=>?_⟩
   ·rw[<-e,Im];congr 1;unfold Gp;rw[A5 g]
   ·obtain w| ⟨r,a,b⟩:=H i F
    ·exact .inl w
    ·exact .inr ⟨r,GO _ a,b⟩
def uG(P:AM)(L:∀R∈P.AG,0<=R.arg/\R.arg<64):∃K:Nat,DN P=K/\(K.testBit 0=true->∃R∈P.AG,R.op=3/\R.arg.toNat&&& 3≠0)/\(K.testBit 7=true->∃R∈P.AG,R.op=3/\R.arg.toNat&&& 48≠0):=by
 refine AJ (uE P.AG (λR h=>(L R h).1) 0) λA e H=>?_;have H:∀i,A.testBit i=true->∃R∈P.AG,R.op=3/\R.arg.toNat.testBit i=true:=λi h=>(H i h).resolve_left (by rw[Nat.zero_testBit];decide);haveI e:P.AG.foldl Gp 0=A:=e;haveI y:Ab (A:Int) (AQ 16 32)=((A&&& 48:Nat):Int):=by
  rw[show AQ 16 32=((48:Nat):Int) from by decide+kernel];exact H4 A 48
 unfold DN Rn;rw[e,y];haveI t:∀i,i=0\/i=7->Nat.testBit 64 i=false:=λi h=>by rcases h with rfl| rfl<;>decide
 by_cases g:A&&& 48=0
 ·refine⟨A||| 64,?_,λh=>?_,λh=>?_⟩
  ·rw[A6 (by rw[g];rfl)];exact Ib A 64
  ·rw[Nat.testBit_or,t 0 (.inl rfl),Bool.or_false] at h;refine BX (H 0 h) λR a b c=>?_;exact⟨R,a,b,Zd (.inl c)⟩
  ·rw[Nat.testBit_or,t 7 (.inr rfl),Bool.or_false] at h;refine BX (H 7 h) λR a b c=>?_;have:R.arg.toNat.testBit 7=false:=Nat.testBit_lt_two_pow (by haveI:=L R a;exact A3 0x248010ca0139820086012c0200040 [] [_] this);rw[this] at c;cases c
 ·refine⟨A||| 128||| 64,?_,λh=>?_,λh=>?_⟩
  ·rw[A5 (by exact A3 0x11a0014012280000441 [_] [] g)];rw[show AQ (A:Int) 128=((A||| 128:Nat):Int) from Ib A 128];exact Ib (A||| 128) 64
  ·rw[Nat.testBit_or,Nat.testBit_or,t 0 (.inl rfl),Bool.or_false,show Nat.testBit 128 0=false from by decide,Bool.or_false] at h;refine BX (H 0 h) λR a b c=>?_;exact⟨R,a,b,Zd (.inl c)⟩
  ·have:∃i,(i=4\/i=5)/\A.testBit i=true:=by
    by_cases G:A.testBit 4=true
    ·exact⟨4,.inl rfl,G⟩
    ·by_cases B:A.testBit 5=true
     ·exact⟨5,.inr rfl,B⟩
     ·exfalso;apply g;apply Nat.eq_of_testBit_eq;intro i;rw[Nat.testBit_and,Nat.zero_testBit,show (48:Nat)=2^4||| 2^5 from rfl,Nat.testBit_or,Nat.testBit_two_pow,Nat.testBit_two_pow];by_cases Q:4=i
      ·subst Q;simp[G]
      ·by_cases W:5=i
       ·subst W;simp[B]
       ·simp[Q,W]
   refine AJ this λi F d=>?_;refine BX (H i d) λR a b c=>?_;refine⟨R,a,b,u6 ?_⟩;obtain rfl| rfl:=F
   ·exact .inl c
   ·exact .inr c
def uH(P:AM)(c:List Int)(o m:Int)(l:Prop):Prop:=
 (0<=o/\o<256)->(0<=m/\m<256)->(CB c o=CB c m)->(∀R∈P.AG,R.op=1->G7 R o=G7 R m)->(∀R∈P.AG,R.op=3->R.arg.toNat&&& 3≠0->(o=10↔m=10))->(∀R∈P.AG,R.op=3->R.arg.toNat&&& 48≠0->Bi o=Bi m)->l
def H5(P:AM)(c:List Int)(o m:Int):Prop:=Ch (uH P c o m)
section
variable(zh:H5 P cs o m)
def H5.ro:=zh _ λz Z Z Z Z Z=>z
def H5.rm:=zh _ λZ z Z Z Z Z=>z
def H5.cls:=zh _ λZ Z z Z Z Z=>z
def H5.fit:=zh _ λZ Z Z z Z Z=>z
def H5.feed:=zh _ λZ Z Z Z z Z=>z
def H5.word:=zh _ λZ Z Z Z Z z=>z
end
def Ob(P:AM)(c:List Int)(o m:Int):Prop:=o=m\/H5 P c o m
def uJ(P:AM)(l:Prop):Prop:=
 (∀R∈P.AG,0<=R.arg/\R.arg<64)->(∀R∈P.AG,R.op=1->0<=R.B1/\R.B1<=R.Ax/\R.Ax<=255)->l
def Cx(P:AM):Prop:=Ch (uJ P)
section
variable(zh:Cx P)
def Cx.arg:=zh _ λz Z=>z
def Cx.KS:=zh _ λZ z=>z
end
def uK(h:0<=a):Ab a (AQ 1 2)≠0↔a.toNat&&& 3≠0:=by
 rcases Il h with⟨x,rfl⟩
 rw[show AQ 1 2=((3:Nat):Int) from by decide+kernel];exact not_congr Int.ofNat_eq_zero
def uM(h:0<=a):Ab a (AQ 16 32)≠0↔a.toNat&&& 48≠0:=by
 rcases Il h with⟨x,rfl⟩
 rw[show AQ 16 32=((48:Nat):Int) from by decide+kernel];exact not_congr Int.ofNat_eq_zero
def Ic{a b o m:Int}(h:a<=o↔a<=m)(H:b+1<=o↔b+1<=m):(a<=o/\o<=b)↔(a<=m/\m<=b):=and_congr h (Int.not_lt.symm.trans ((not_congr H).trans Int.not_lt))
def Me{a b c d:Prop}[Decidable a][Decidable b][Decidable c][Decidable d](h:(a/\b)↔(c/\d)):(decide a&&decide b)=(decide c&&decide d):=by
 rw[<-Bool.decide_and,<-Bool.decide_and];exact ES.2 h
set_option tactic.hygienic true in
def foldI{a b x:Int}:(a<=(if 65<=x/\x<=90 then x+32 else x)/\(if 65<=x/\x<=90 then x+32 else x)<=b)↔((a<=x/\x<=b)/\¬(65<=x/\x<=90))\/(max a 97-32<=x/\x<=min b 122-32):=by
 haveI e:max a 97-32<=x↔a<=x+32/\65<=x:=⟨λh=>⟨by haveI:=Int.le_max_left a 97;exact A3 0x2d01008611004b089210086b1844300880 [] [_,_] h,by haveI:=Int.le_max_right a 97;exact A3 0x580420886b009210086b1844308880 [] [_,_] h⟩,λh=>by haveI:=Int.max_le.2 ⟨h.1,(by exact A3 0x5a02010c021844372c02104435a02010c0208880 [] [_,_] h:97<=x+32)⟩;exact A3 0x584490804358c221804b404021844b1844300880 [] [_,_] this⟩;haveI E:x<=min b 122-32↔x+32<=b/\x<=90:=⟨λh=>⟨by haveI:=Int.min_le_left b 122;exact A3 0x2c22404021804b484021a87a10c2200880 [] [_,_] h,by haveI:=Int.min_le_right b 122;exact A3 0x58b421804b484021a87a10c2200880 [] [_,_] h⟩,λh=>by haveI:=Int.le_min.2 ⟨h.1,(by exact A3 0x58f421a02010c0272c5a10c02584480804300880 [] [_,_] h:x+32<=122)⟩;exact A3 0x5a42010d43d08611004b50f42184480804300880 [] [_,_] this⟩;rw[e,E];split
 ·rename_i g;exact⟨λh=>.inr ⟨⟨h.1,g.1⟩,h.2,g.2⟩,λh=>h.elim (λh=>Ad g h.2) λh=>⟨h.1.1,h.2.1⟩⟩
 ·rename_i g;exact⟨λh=>.inl ⟨h,g⟩,λh=>h.elim (λh=>h.1) λh=>Ad ⟨h.1.2,h.2.2⟩ g⟩
def Zk{P:AM}{I:List Int}(K:Ds P I)(A:Cx P){o m:Int}(r:0<=o/\o<256)(rm:0<=m/\m<256)(h:CB I o=CB I m):H5 P I o m:=by
 haveI C:=u4 h;have a:∀R∈P.AG,∀x,iC R x->(x<=o↔x<=m):=λR H x W=>C x ((K.mem x).2 (.inr ⟨R,H,W⟩));refine(λZ B=>B r rm h (λR H Q=>?_) (λR H L c=>?_) (λR H L c=>?_))
 ·have r3:=(A.KS R H Q).2.2;haveI c1:=a R H R.B1 (.inl ⟨Q,.inl (.inl rfl)⟩);have t:R.Ax+1<=o↔R.Ax+1<=m:=by
   by_cases g:R.Ax<255
   ·exact a R H _ (.inl ⟨Q,.inl (.inr ⟨g,rfl⟩)⟩)
   ·haveI e:R.Ax+1=256:=AK 0x350010d010004b3fc430088c3fc4300840 [] [_] r3 g;refine(e).symm▸?_;exact iff_of_false (Int.not_le.2 r.2) (Int.not_le.2 rm.2)
  have l:=Ic c1 t;unfold G7 O5;refine Me ?_;cases d:R.fold with
  | false=>
   rw[A5 (λw=>Bool.noConfusion w.1),A5 (λw=>Bool.noConfusion w.1)];exact l
  | true=>
   simp only[true_and];rw[foldI,foldI];refine or_congr ?_ ?_
   ·by_cases g:R.B1<=90/\65<=R.Ax
    ·have k:=λx W=>a R H x (.inl ⟨Q,.inr ⟨d,.inl ⟨g.1,g.2,W⟩⟩⟩);exact and_congr l (not_congr (Ic (k 65 (.inl rfl)) (k 91 (.inr rfl))))
    ·haveI n:∀x,R.B1<=x/\x<=R.Ax->¬(65<=x/\x<=90):=λx h w=>g ⟨Em h.1 w.2,Em w.1 h.2⟩;rw[and_iff_left_of_imp (n o),and_iff_left_of_imp (n m)];exact l
   ·by_cases g:max R.B1 97<=min R.Ax 122
    ·haveI k:=λx W=>a R H x (.inl ⟨Q,.inr ⟨d,.inr ⟨g,W⟩⟩⟩);exact Ic (k _ (.inl rfl)) (k _ (.inr rfl))
    ·haveI n:∀x,¬(max R.B1 97-32<=x/\x<=min R.Ax 122-32):=λx w=>g (Int.le_of_sub_le_sub_right (Em w.1 w.2));exact iff_of_false (n o) (n m)
 ·have c:=(uK (A.arg R H).1).2 c;have k:=λx W=>a R H x (.inr ⟨L,.inl ⟨c,W⟩⟩);haveI e:∀x:Int,x=10↔10<=x/\x<=10:=λx=>⟨λh=>⟨h▸Int.le_refl _,h▸Int.le_refl _⟩,λh=>Int.le_antisymm h.2 h.1⟩;rw[e,e];exact Ic (k 10 (.inl rfl)) (k 11 (.inr rfl))
 ·have c:=(uM (A.arg R H).1).2 c;have k:=λx W=>a R H x (.inr ⟨L,.inr ⟨c,W⟩⟩);unfold Bi;rw[Me (Ic (k 48 (.inl rfl)) (k 58 (.inr (.inl rfl)))),Me (Ic (k 65 (.inr (.inr (.inl rfl)))) (k 91 (.inr (.inr (.inr (.inl rfl)))))),Me (Ic (k 95 (.inr (.inr (.inr (.inr (.inl rfl)))))) (k 96 (.inr (.inr (.inr (.inr (.inr (.inl rfl)))))))),Me (Ic (k 97 (.inr (.inr (.inr (.inr (.inr (.inr (.inl rfl)))))))) (k 123 (.inr (.inr (.inr (.inr (.inr (.inr (.inr rfl)))))))))]
def Mf{P:AM}{i:Int}(h:(P.get i).op≠6):P.get i∈P.AG:=by
 unfold AM.get at h⊢;by_cases g:i.toNat<P.AG.length
 ·rw[C4,Aw g];exact Fw _
 ·rw[C4,EP (A3 0x20a0100244802500841 [_] [_] g)] at h;exact Ad rfl h
section
variable{P:AM}{cs:List Int}{o m:Int}
def Zl{f x:Int}{G:Nat}(H:Ab f 63=G)(y:OA f≠0)(h:x≠256):G8 f x=((bX G (decide (x=10)) (decide (Bi x=decide (Ab f 128≠0))):Nat):Int):=by
 refine(A5 y).trans ?_;rw[H];dsimp only;rw[A5 h,Bg h,Bool.true_and];have e:(if x=10 then AQ (G:Int) 2 else G)=((G||| Oy (decide (x=10)):Nat):Int):=by
  by_cases g:x=10
  ·rw[A6 g,Bg g];exact Ib G 2
  ·rw[A5 g,C0 g];exact AO Int.ofNat (Nat.or_zero G).symm
 rw[e];by_cases w:Bi x=decide (Ab f 128≠0)
 ·rw[A6 w,Bg w];exact Ib _ 32
 ·rw[A5 w,C0 w];exact Ib _ 16
def uO(f:Int):∃g:Nat,Ab f 63=g:=by
 unfold Ab Builtin.bitAnd;by_cases h:0<=f
 ·rw[Bg h];exact⟨_,rfl⟩
 ·rw[C0 h];exact⟨63-(63&&& (Builtin.bitNot f).toNat),(Int.ofNat_sub Nat.and_le_left).symm⟩
def uP(A:Cx P)(h:Ob P cs o m)(f i:Int):Dn (P.get i) (G8 f o)=Dn (P.get i) (G8 f m):=by
 rcases h with rfl| h
 ·rfl
 ·unfold Dn;by_cases g:(P.get i).op=3
  ·rw[A6 g,A6 g];haveI H:=Mf (P:=P) (i:=i) (by rw[g];decide);refine AW (uO f) λG c=>?_;by_cases x:OA f=0
   ·unfold G8;rw[A6 x,A6 x]
   ·have lt:(P.get i).arg.toNat<64:=(Int.toNat_lt (A.arg _ H).1).2 (A.arg _ H).2;rw[<-Hr (A.arg _ H).1,Zl c x (λw=>Ad (w▸h.ro.2) (by decide)),Zl c x (λw=>Ad (w▸h.rm.2) (by decide)),H4,H4,u9 lt (λw=>ES.2 (h.feed _ H g w)) λw=>by rw[h.word _ H g w]]
  ·rw[A5 g,A5 g]
def Zm(x:Int)(h:x≠256):Ab (Bx x) 63=((oF (decide (x=10)):Nat):Int):=by
 rw[Tf x h];refine(?_:((fN (decide (x=10)) (Bi x)&&& 63:Nat):Int)=_);cases decide (x=10)<;>cases Bi x<;>rfl
def Zn(A:Cx P)(h:Ob P cs o m)(i:Int):Dn (P.get i) (Ab (Bx o) 63)=Dn (P.get i) (Ab (Bx m) 63):=by
 obtain rfl| h:=h
 ·rfl
 ·unfold Dn;by_cases g:(P.get i).op=3
  ·rw[A6 g,A6 g];haveI H:=Mf (P:=P) (i:=i) (by rw[g];decide);rw[<-Hr (A.arg _ H).1,Zm o (λw=>Ad (w▸h.ro.2) (by decide)),Zm m (λw=>Ad (w▸h.rm.2) (by decide)),H4,H4,(Ze _ ((Int.toNat_lt (A.arg _ H).1).2 (A.arg _ H).2) _ _ λw=>ES.2 (h.feed _ H g w)).2]
  ·rw[A5 g,A5 g]
def Zo(A:Cx P)(h:Ob P cs o m):Ab (Bx o) (DN P)=Ab (Bx m) (DN P)/\Ab (AQ (Bx o) 64) (DN P)=Ab (AQ (Bx m) 64) (DN P)/\Ab (Bx o) 64=Ab (Bx m) 64/\Ab (AQ (Bx o) 64) 64=Ab (AQ (Bx m) 64) 64:=by
 rcases h with rfl| h
 ·exact⟨rfl,rfl,rfl,rfl⟩
 ·refine BX (uG P A.arg) λK H V G=>?_;haveI N:o≠256:=by haveI:=h.ro;exact A3 0x11a800860139880086012c0200040 [] [_] this
  haveI n:m≠256:=by haveI:=h.rm;exact A3 0x11a800860139880086012c0200040 [] [_] this
  haveI f:fN (decide (o=10)) (Bi o)&&& K=fN (decide (m=10)) (Bi m)&&& K:=Zi (λw=>by
   refine BX (V w) λR a b c=>?_;exact ES.2 (h.feed R a b c)) (λw=>by
   refine BX (G w) λR a b c=>?_;exact h.word R a b c) Oz Oz
  haveI F:fN (decide (o=10)) (Bi o)&&& 64=fN (decide (m=10)) (Bi m)&&& 64:=Zi (λw=>Ad w (by decide)) (λw=>Ad w (by decide)) Oz Oz;rw[H,Tf o N,Tf m n];haveI B:∀x:Nat,AQ (x:Int) 64=((x||| 64:Nat):Int):=λx=>Ib x 64;haveI d:∀x:Nat,Ab (x:Int) 64=((x&&& 64:Nat):Int):=λx=>H4 x 64;rw[B,B,H4,H4,H4,H4,d,d,d,d,Nat.and_or_distrib_right,Nat.and_or_distrib_right,Nat.and_or_distrib_right,Nat.and_or_distrib_right,f,F];exact⟨rfl,rfl,rfl,rfl⟩
end
def uQ{P:AM}{K b B:Int}(h:∀i,Dn (P.get i) b=Dn (P.get i) B)(n:Nat)(i:Int)(S C:List Int):IJ P K b n i S C=IJ P K B n i S C:=by
 induction n generalizing i S C with
 | zero=>rfl
 | succ n X=>simp only[S6,Lx];rw[h i,X,X]
def Tg{P:AM}{K b B:Int}(h:∀i,Dn (P.get i) b=Dn (P.get i) B)(hd:Int)(C:List Int):Ec P K b hd C=Ec P K B hd C:=by
 haveI e:Gr P K b=Gr P K B:=by
  funext c
  unfold Gr;split
  ·rfl
  ·split
   ·rfl
   ·exact uQ h _ _ _ _
 unfold Ec
 (refine(e).symm▸?_;try (with_reducible rfl))
def uR{P:AM}{K b B:Int}(h:∀i,Dn (P.get i) b=Dn (P.get i) B)(H:List Int):IK P K b H=IK P K B H:=by
 haveI e:JT P K b=JT P K B:=by
  funext it hd
  unfold JT;rw[Tg h]
 unfold IK
 (refine(e).symm▸?_;try (with_reducible rfl))
def uU{P:AM}{K b B:Int}{f F:Ap->Bool}{e:Bool}(h:∀i,Dn (P.get i) b=Dn (P.get i) B)(H:∀i,(P.get i).op=1->e=false->f (P.get i)=F (P.get i))(O r j:List Int):HZ P K f e b O r j=HZ P K F e B O r j:=by
 induction O generalizing r j with
 | nil=>rfl
 | cons i is C=>
  simp only[YF,OG];rw[C,C,C,C];by_cases g:(P.get i).op=1
  ·rw[A6 g,A6 g];cases e with
   | true=>simp
   | false=>rw[H i g rfl,Tg h]
  ·rw[A5 g,A5 g]
def Zp{P:AM}{K:Int}{X:PC}{C g:List Int}{f F:Int}(h:Ab f 64=Ab F 64)(H:Ab f (DN P)=Ab F (DN P)):E7 P K X C f g=E7 P K X C F g:=by
 haveI e:outF P K f C=outF P K F C:=by unfold outF;rw[h,H]
 unfold E7
 (refine(e).symm▸?_;try (with_reducible rfl))
def uV(A:Cx P)(h:Ob P I o m)(K:Int)(X:PC)(n:Int):D4 P K I X n o=D4 P K I X n m:=by
 by_cases e:o=m
 ·rw[e]
 ·have H:=h.resolve_left e;haveI A0:¬o=256:=by haveI:=H.ro;exact A3 0x11a800860139880086012c0200040 [] [_] this
  haveI N:¬m=256:=by haveI:=H.rm;exact A3 0x11a800860139880086012c0200040 [] [_] this
  haveI c:Ef I o=Ef I m:=by unfold Ef;rw[A5 A0,A5 N,H.cls]
  haveI d:decide (o=256)=decide (m=256):=by rw[C0 A0,C0 N]
  refine Cp (Zo A h) λk1 k2 k3 w=>?_;haveI s:JW P K X (tabAt X n) o=JW P K X (tabAt X n) m:=by
   haveI r:JV P K (tabAt X n) o=JV P K (tabAt X n) m:=by
    unfold JV;rw[uR (uP A h _),d];exact uU (Zn A h) (λi F Z=>H.fit _ (Mf (by rw[F];decide)) F) _ _ _
   unfold JW;refine(r).symm▸?_;refine Zp ?_ ?_
   ·split
    ·exact k3
    ·exact w
   ·split
    ·exact k1
    ·exact k2
  unfold D4;rw[c,s]
def uW(P:AM)(c:List Int)(t T:List Int)(l:Prop):Prop:=
 (t.length=T.length)->(∀(i:Nat) x y,t[i]?=some x->T[i]?=some y->Ob P c x y)->l
def Ck(P:AM)(c:List Int)(t T:List Int):Prop:=Ch (uW P c t T)
section
variable(zh:Ck P cs t t')
def Ck.len:=zh _ λz Z=>z
def Ck.at_:=zh _ λZ z=>z
end
section
variable{P:AM}{cs t t':List Int}
def uX(A:Cx P)(kind:Int)(h:Ck P cs t t')(X:PC)(n:Int):GG P kind cs t X n=GG P kind cs t' X n:=by
 induction t generalizing t' X n with
 | nil=>
  cases t' with
  | nil=>rfl
  | cons _ _=>have:=h.len;cases this
 | cons o t ih=>
  cases t' with
  | nil=>have:=h.len;cases this
  | cons m t'=>
   haveI h0:=h.at_ 0 o m rfl rfl;simp only[TJ];rw[uV A h0,ih (t':=t') (λZ zK=>zK (by haveI:=h.len;simpa using this) (λi x y a b=>h.at_ (i+1) x y a b))]
set_option tactic.hygienic true in
def Ck.take(h:Ck P cs t t')(n:Nat):Ck P cs (t.take n) (t'.take n):=(λZ B=>B (by simp[h.len]) (λi x y a b=>by
 rw[List.getElem?_take] at a b;split at a
 ·rename_i g;rw[A6 g] at b;exact h.at_ i x y a b
 ·cases a))
def Ck.drop(h:Ck P cs t t')(n:Nat):Ck P cs (t.drop n) (t'.drop n):=(λZ B=>B (by simp[h.len]) (λi x y a b=>by
 rw[List.getElem?_drop] at a b;exact h.at_ _ x y a b))
def Ck.rev(h:Ck P cs t t'):Ck P cs t.reverse t'.reverse:=(λZ B=>B (by simp[h.len]) (λi x y a b=>by
 have M:=h.len;have H:i<t.length:=by
  by_cases g:i<t.length
  ·exact g
  ·rw[EP (by simp;exact A3 0x8084012240108482 [_,_] [] g)] at a;cases a
 rw[List.getElem?_reverse H] at a;rw[List.getElem?_reverse (AK 0x908401504220a441004c3 [_,_,_] [] M H),<-M] at b;exact h.at_ _ x y a b))
def Ck.uY(h:Ck P cs t t'):Ck P cs (t++[256]) (t'++[256]):=(λZ B=>B (by simp[h.len]) (λi x y a b=>by
 obtain ⟨L,a⟩| ⟨L,a⟩:=FI a
 ·obtain ⟨l,b⟩| ⟨l,b⟩:=FI b
  ·exact h.at_ i x y a b
  ·haveI:=h.len;(first| lia| omega)
 ·obtain ⟨l,b⟩| ⟨l,b⟩:=FI b
  ·haveI:=h.len;(first| lia| omega)
  ·left;rw[a,b]))
def uZ(A:Cx P)(h:Ck P cs t t')(K:Int)(X:PC)(a:Int)(l:Bool):Eg P K X t a l=Eg P K X t' a l:=by
 haveI M:=h.len;haveI B:Fe P.rev t a=Fe P.rev t' a\/∃o m,Ob P cs o m/\Fe P.rev t a=Bx o/\Fe P.rev t' a=Bx m:=by
  unfold Fe
  (refine(M)▸?_;try (with_reducible rfl))
  simp only;generalize (if P.rev=true then a else a-1)=x;by_cases g:x<0\/(t.length:Int)<=x
  ·rw[A6 g,A6 g];exact .inl rfl
  ·rw[A5 g,A5 g];right;refine⟨_,_,?_,rfl,rfl⟩;haveI H:x.toNat<t.length:=by exact A3 0x9004a0111eb008a00b00000841 [_] [_] g
   haveI n:x.toNat<t'.length:=by exact AK 0x24012804a004214842500882 [_,_] [_] M H
   refine h.at_ x.toNat _ _ ?_ ?_
   ·rw[C4,Aw H];rfl
   ·rw[C4,Aw n];rfl
 unfold Eg;obtain e| ⟨o,m,U,E,R⟩:=B
 ·(refine(e).symm▸?_;try (with_reducible rfl))
 ·rw[E,R];refine Cp (Zo A U) λk1 k2 k3 w=>?_;rw[Tg (Zn A U)];exact Zp k3 k1
def ua(A:Cx P)(h:Ck P cs t t')(K a:Int)(l:Bool):MN P K cs t a l=MN P K cs t' a l:=by
 unfold MN;rw[uZ A h];congr 1;refine uX A K ?_ _ _;unfold KO;refine Ck.uY ?_;split
 ·exact(h.take _).rev
 ·exact h.drop _
def ub(A:Cx P)(h:Ck P cs t t')(a i:Int)(U:(P.get i).op=3)(v:∀x∈t,0<=x)(M:∀x∈t',0<=x):Cv t a (P.get i).arg=Cv t' a (P.get i).arg:=by
 haveI H:=h.len;have R:=Mf (P:=P) (i:=i) (by rw[U];decide);haveI L:=A.arg _ R;unfold Cv;have o:∀n:Nat,Ob P cs (t.getD n 0) (t'.getD n 0)/\0<=t.getD n 0/\0<=t'.getD n 0:=λn=>by
  by_cases g:n<t.length
  ·rw[C4,C4,Aw g,Aw (by exact AK 0x908401504220a441004c3 [_,_,_] [] H g:n<t'.length)];exact⟨h.at_ n _ _ (Aw g) (Aw (AK 0x908401504220a441004c3 [_,_,_] [] H g)),v _ (Fw _),M _ (Fw _)⟩
  ·rw[C4,C4,EP (by exact A3 0x8084012240108482 [_,_] [] g),EP (by exact AK 0x1010802a0044122441084c3 [_,_,_] [] H g)];exact⟨.inl rfl,by exact Dh _,by exact Dh _⟩
 have c:∀x y:Int,(Ob P cs x y)->((P.get i).arg.toNat&&& 3≠0->(x=10↔y=10))/\((P.get i).arg.toNat&&& 48≠0->Bi x=Bi y):=λx y w=>by
  rcases w with rfl| w
  ·exact⟨λZ=>Iff.rfl,λZ=>rfl⟩
  ·exact⟨w.feed _ R U,w.word _ R U⟩
 have B:(Gm t a= -1↔Gm t' a= -1)/\Ob P cs (Gm t a) (Gm t' a):=by
  unfold Gm;split
  ·refine C9 (o (a-1).toNat) λw W I=>?_;exact⟨by omega,w⟩
  ·exact⟨Iff.rfl,.inl rfl⟩
 have p:(G6 t a= -1↔G6 t' a= -1)/\Ob P cs (G6 t a) (G6 t' a):=by
  unfold G6
  (refine(H)▸?_;try (with_reducible rfl))
  split
  ·refine C9 (o a.toNat) λw W I=>?_;exact⟨by(first| lia| omega),w⟩
  ·exact⟨Iff.rfl,.inl rfl⟩
 haveI S:=c _ _ B.2;haveI sh:=c _ _ p.2;generalize (P.get i).arg=x at L S sh⊢;rcases Il L.1 with⟨x,rfl⟩
 simp only[Int.toNat_natCast] at S sh;rw[Zj,Zj,uC (by exact A3 0x488021802e60802194015940100041 [_] [] L:x<64) B.1 p.1 (λw=>⟨S.1 w,sh.1 w⟩) (λw=>by rw[S.2 w,sh.2 w])]
set_option tactic.hygienic true in
def Zq{H j:Int->Bool}(h:∀i,(P.get i).op=3->H (P.get i).arg=j (P.get i).arg)(a hd:Int)(I:List Int)(L:QL):FL P H a hd I L=FL P j a hd I L:=by
 haveI e:Hm P H a=Hm P j a:=by
  funext c
  unfold Hm;split
  ·rfl
  ·rename_i n I _;by_cases g:(P.get n).op=3
   ·rw[h n g]
   ·haveI:∀b:Bool,¬((P.get n).op=3/\b=true):=λb w=>g w.1;simp only[this,if_false]
 unfold FL
 (refine(e).symm▸?_;try (with_reducible rfl))
def uc{DP lt:Bool}{H j:Int->Bool}(h:∀i,(P.get i).op=3->H (P.get i).arg=j (P.get i).arg)(o:lt=true->∀i,F (P.get i)=F' (P.get i))(a:Int)(N:QL)(S:BR)(L:QL):Ek P m DP lt F H a N S L=Ek P m DP lt F' j a N S L:=by
 induction N generalizing S L with
 | nil=>rfl
 | cons e N C=>
  rcases e with⟨n,v⟩
  cases v with
  | none=>exact C _ _
  | some c=>
   simp only[Z8,Oe];rw[C,C,C,Zq h];cases lt with
   | true=>rw[o rfl n]
   | false=>simp
set_option tactic.hygienic true in
def ud(h:Ck P cs t t')(a i:Int)(L:0<=a/\a<t.length):Ci t a (P.get i)=Ci t' a (P.get i):=by
 unfold Ci;split
 ·rename_i g;haveI M:=h.len;haveI H:a.toNat<t.length:=A3 0x48025009cc2802012c0200041 [_] [_] L;haveI l:a.toNat<t'.length:=AK 0x24012804a004214842500882 [_,_] [_] M H;haveI w:=h.at_ a.toNat (t.getD a.toNat 0) (t'.getD a.toNat 0) (getD_some H) (getD_some l);rcases w with w| w
  ·rw[w]
  ·exact w.fit _ (Mf (by rw[g];decide)) g
 ·rfl
def ue(A:Cx P)(h:Ck P cs t t')(v:∀x∈t,0<=x)(M:∀x∈t',0<=x)(m:Mode)(w:Nat)(l Aj:Bool)(b e:Int)(f:e<=t.length)(n:Nat)(N:QL)(a:Int)(L:0<=a)(S:BR):
  Je P m w l Aj b e (Ci t) (Cv t) n N a S=Je P m w l Aj b e (Ci t') (Cv t') n N a S:=by
 induction n generalizing N a S with
 | zero=>rfl
 | succ n C=>
  simp only[MH,Jd];haveI H:∀a i,(P.get i).op=3->Cv t a (P.get i).arg=Cv t' a (P.get i).arg:=λa i U=>ub A h a i U v M;rw[Zq (H a),uc (H (a+1)) (F:=Ci t a) (F':=Ci t' a) (λq i=>ud h a i (by simp at q;exact CA 0x1cc2802012c020016500422580400302200881 [_] [_,_] f L q))];rw[C _ _ (by exact A3 0x2d010004002c0200040 [] [_] L)]
def uf(A:Cx P)(h:Ck P cs t t')(v:∀x∈t,0<=x)(L:∀x∈t',0<=x)(w a c:Int)(H:0<=a):KQ P w t a c=KQ P w t' a c:=by
 haveI M:=h.len;unfold KQ MJ Oi Jf OZ;rw[<-M];simp only[ue A h v L _ _ _ _ _ _ (Int.le_refl _) _ _ _ H]
end
def Zr:List AV->PE->AH->Prop:=
 aO λm=>aN λQ I=>∃S:List Int,I.ro m=some S/\S.length<=1000/\∀E,Q (.bool true) E
def ug(S:AH)(p C:Addr)(a:List Addr)(P:AM)(c:Addr)(I:List Int)(l:Prop):Prop:=
 (BJ S p C a P)->(S.A4 p 16=some (.bytes []))->(S.A4 p 17=some (.bool false))->(S.A4 p 18=some (.obj c))->(S.A1 c=some (I.map .int))->l
def EB(S:AH)(p C:Addr)(a:List Addr)(P:AM)(c:Addr)(I:List Int):Prop:=Ch (ug S p C a P c I)
section
variable(zh:EB σ p il as P lh cs)
def EB.pv:=zh _ λz Z Z Z Z=>z
def EB.Fi:=zh _ λZ z Z Z Z=>z
def EB.Fj:=zh _ λZ Z z Z Z=>z
def EB.Fn:=zh _ λZ Z Z z Z=>z
def EB.cl:=zh _ λZ Z Z Z z=>z
end
def EB.kp{M:Pl->Addr->Prop}{S E:AH}{p C:Addr}{A:List Addr}{P:AM}{c:Addr}{I:List Int}(h:EB S p C A P c I)(k:KP M S E)(n:∀a,¬M .f a)(N:∀a,¬M .l a):EB E p C A P c I:=by
 haveI e:=k.A4 p (nn h.pv.cls) (n p);exact(λZ B=>B (h.pv.kp k (n _) (N _) (λZ Z=>n _)) (by rw[e];exact h.Fi) (by rw[e];exact h.Fj) (by rw[e];exact h.Fn) (k.A1 _ _ h.cl (N _)))
def Mg:Tb:=(11,O8)::(10,JO)::ZQ
def Mh(a b:List Int):∀(j:Nat) (x y:AV),(a.map AV.int)[j]?=some x->(b.map AV.int)[j]?=some y->∀n,CR n x y:=λj x y h H n=>by
 rw[Bb] at h H;refine AJ (BY.1 h) λu Z A=>?_;subst A;refine AJ (BY.1 H) λv Z A=>?_;subst A;cases n<;>trivial
def uh(a b:Int×List Int×Int×List Int):CR 3 (Gy a) (Gy b):=by
 rcases a with⟨a1,a2,D,A⟩
 rcases b with⟨n,B,P,M⟩
 exact Gz trivial (Gz (λj x y h H=>Mh a2 B j x y h H 1) (Gz trivial (Gz (λj x y h H=>Mh A M j x y h H 1) ZL)))
def zp:∀p a,MD p a->MA p a:=λp a w=>by cases p<;>first| trivial| exact w.elim
def ui{p:Prop}{_:Decidable p}{Q:PE}{S:AH}(h:p)(q:Q (.bool true) S):Q (.bool (false^^decide p)) S:=by rw[Bg h];exact q
def three(h:0<=n/\n<3):BF n ([AV.int 0,AV.int 1,AV.int 2]:List AV).length=some n.toNat/\([AV.int 0,AV.int 1,AV.int 2]:List AV)[n.toNat]?=some (.int n):=by
 refine⟨Dm h.1 h.2,?_⟩;rcases Il h.1 with⟨k,rfl⟩
 match k,h.2 with
 | 0,_=>rfl
 | 1,_=>rfl
 | 2,_=>rfl
 | k+3,h=>exact Ad h (Ae 0x230602a06000441 [_] [])
section
variable{I:Ag}(S:AU I Mg){Q:PE}{σ:AH}{p il:Addr}{as:List Addr}{P:AM}{cl:Addr}{cs t t':List Int}{kind Ey Mi:Int}
include S
def uj(C:∀L,Q (.bool true) L)(V:EB L p il as P cl cs)(K:P.Ok)(c:Ds P cs)(A:Cx P)(O:Ck P cs t t')(r:∀o∈t,0<=o/\o<256)(Y:∀o∈t',0<=o/\o<256)(M:t.length<=2)(H:0<=Mi)(h:Mi<=t.length){lo:Bool}:
  AP I (CM.drop 19) (BB Q) [x0,x1,x2,x3,x4,x5,x6,x7,some (.obj p),x9,Zs,Zt,Th,Zu,Zv,P0,zq,zt,Zw,Zx,Zy,Zz,aC,aD,aE,aF,some (.bytes t),some (.bytes t'),some (.int kind),some (.int Mi),some (.int Ey),some (.bool lo)] L:=by
 haveI e:=O.len;have l:AU I KR:=S.dr 5;have E3:cs.length<=1000:=BE (Nat.le_of_lt c.len) (AN rfl);have E:t'.length<=2:=e▸M;have n:Mi<=t'.length:=e▸h;refine sp_i (l.g 89 rfl) (λZ B=>B il as P cl cs V.pv K V.Fn V.cl E3 c.Jh c.hd r (BE M (AN rfl)) H h (λzu a3 k3 Z e3=>?_));haveI D:=V.kp k3 (λZ w=>w) (λZ w=>w);refine sp_i (l.g 89 rfl) (λZ B=>B il as P cl cs D.pv K D.Fn D.cl E3 c.Jh c.hd Y (BE E (AN rfl)) H n (λOQ a4 U Z e4=>?_));have N:=D.kp U (λZ w=>w) (λZ w=>w);rw[<-ua A O] at e4;exists U.A1 _ _ e3 (λw=>w),e4;refine A8 (λj x y h m=>?_) (FE (λw=>Ad rfl w) λZ=>?_)
 ·rw[Bb] at h m;refine AJ (BY.1 h) λu Z A0=>?_;subst A0;refine AJ (BY.1 m) λva Z A0=>?_;subst A0;exact uh u va
 exists N.pv.rev;refine Cf (λZ=>C _) λg=>?_;have g:P.rev=false:=Bool.not_eq_true _▸g;have f:=uf A O (λx W=>(r x W).1) (λx W=>(Y x W).1) kind Mi Ey H;haveI rl:room t.length:=BE M (AN rfl);haveI a:room t'.length:=BE E (AN rfl);refine sp_i (l.g 90 rfl) (λZ B=>B il as P false N.pv K g N.Fi N.Fj rl H h M (λuk G e5=>?_) (λuk a5 X G e5 h5=>?_))
 ·have v:=N.kp G (λZ w=>w) (λZ w=>w);refine sp_i (l.g 90 rfl) (λZ B=>B il as P false v.pv K g v.Fi v.Fj a H n E (λF R e6=>A8 rfl (C _)) (λF d l6 R e6 T=>?_))
  first| exact nO e6 (f.symm.trans e5)| exact nO e5 (f.trans e6)
 ·have v:=N.kp G (λZ w=>w) (λZ w=>w);refine sp_i (l.g 90 rfl) (λZ B=>B il as P false v.pv K g v.Fi v.Fj a H n E (λF R e6=>?_) (λF d l6 R e6 T=>?_))
  ·first| exact nO e6 (f.symm.trans e5)| exact nO e5 (f.trans e6)
  ·rw[<-f,e5] at e6;obtain rfl:=BL e6;exists R.A1 _ _ h5 (λw=>w),T;refine A8 (λj x y h m=>Mh X X j x y h m 3) ?_;exact ui rfl (C F)
def um{Q:PE}(A0:∀D,Q (.bool true) D){D:AH}{p Y:Addr}{F:List Addr}{P:AM}{C:Addr}{c:List Int}(V:EB D p Y F P C c)(K:P.Ok)(U:Ds P c)(A:Cx P){tl m:Addr}{t T:List Int}(d:D.A1 tl=some (t.map .int))(e:D.A1 m=some (T.map .int))
  (O:Ck P c t T) (r:∀o∈t,0<=o/\o<256) (R:∀o∈T,0<=o/\o<256) (M:t.length<=2) {E B G:Int} (H:0<=E/\E<3) (h:0<=B/\B<3) (x:0<=G/\G<3)
  {X y x2 x4 x5 x9 W f g N n P0 Zw Zx Zy Zz aC aD aE aF uo uq ur uu uv uw:Option AV}:
  AP I (CM.drop 15) (BB Q) [X,y,x2,some (.int E),x4,x5,some (.int B),some (.int G),some (.obj p),x9,W,f,g,N,n,P0,some (.obj tl),some (.obj m),Zw,Zx,Zy,Zz,aC,aD,aE,aF,uo,uq,ur,uu,uv,uw] D:=by
 haveI l:=O.len;haveI rl:room t.length:=BE M (AN rfl);haveI v:room T.length:=l▸rl;exists d,ints_map _,rl,r,e,ints_map _,v,R,AN rfl,AN rfl;intro a L;exists BC (A3 0xb0089dcd6500186e60c0012c0200040 [] [_] H) (A3 0x5f735940061804e60c0012c0200040 [] [_] H),AY,(three H).1,(three H).2,rl,AN rfl,AN rfl;intro b j;exists BC (A3 0xb0089dcd6500186e60c0012c0200040 [] [_] h) (A3 0x5f735940061804e60c0012c0200040 [] [_] h),AY,(three h).1,(three h).2;haveI k:KP M0 D ((D.uL a [.int 0,.int 1,.int 2]).uL b [.int 0,.int 1,.int 2]):=(KP.AX (.inr L.2.1)).trans (KP.AX (.inr j.2.1));exact uj S A0 (V.kp k (λZ w=>w) (λZ w=>w)) K U A O r R M (Int.le_min.2 ⟨x.1,Dh _⟩) (Int.min_le_right _ _)
end
open Classical in
def Ez (I:AH)(S T:Addr->Prop):AH where
 cls a:=if S a then I.cls a else none
 A4 a i:=if S a/\I.cls a≠none then I.A4 a i else none
 A1 a:=if T a then I.A1 a else none
 set _:=none
 AL _:=none
 AZ _:=none
 ro _:=none
open Classical in
def aG(h:S a):(Ez I S T).cls a=I.cls a:=by
 refine(?_:(if S a then I.cls a else none)=_);rw[A6 h]
open Classical in
def Ti(h:S a)(H:I.cls a≠none):(Ez I S T).A4 a=I.A4 a:=by
 funext i
 refine(?_:(if S a/\I.cls a≠none then I.A4 a i else none)=_);rw[A6 ⟨h,H⟩]
open Classical in
def Mj(h:T a):(Ez I S T).A1 a=I.A1 a:=by
 refine(?_:(if T a then I.A1 a else none)=_);rw[A6 h]
set_option tactic.hygienic true in
open Classical in
def ux(I:AH)(S T:Addr->Prop):(Ez I S T).le I:=by
 refine(λZ B=>B (λa c h=>?_) (λa h=>?_) (λa i h=>?_) (λa l h=>?_) (λa l h=>(by cases h)) (λa l h=>(by cases h)) (λa l h=>(by cases h)) (λa l h=>(by cases h)))
 ·haveI h:(if S a then I.cls a else none)=some c:=h;split at h
  ·exact h
  ·cases h
 ·have h:(if S a then I.cls a else none)≠none:=h;split at h
  ·rename_i g;exact Ti g h
  ·exact Ad rfl h
 ·haveI h:(if S a then I.cls a else none)=none:=h;refine(?_:(if S a/\I.cls a≠none then I.A4 a i else none)=none);split
  ·rename_i g;rw[A6 g.1] at h;exact Ad h g.2
  ·rfl
 ·haveI h:(if T a then I.A1 a else none)=some l:=h;split at h
  ·exact h
  ·cases h
set_option tactic.hygienic true in
open Classical in
def uy(H:∀a,S a->Bp I a)(m:∀a l,T a->I.A1 a=some l->∀v∈l,v.tf):(Ez I S T).tf:=by
 refine⟨λa i v h=>?_,λa l h=>?_,λa l h=>(by cases h),λZ=>rfl⟩
 ·haveI h:(if S a/\I.cls a≠none then I.A4 a i else none)=some v:=h;split at h
  ·rename_i g;exact H a g.1 i v h
  ·cases h
 ·haveI h:(if T a then I.A1 a else none)=some l:=h;split at h
  ·rename_i g;exact m a l g h
  ·cases h
def C3(x:Option AV):Prop:=∀v,x=some v->v.tf
def EC:C3 none:=λZ h=>by cases h
def Ie(i:Int):C3 (some (.int i)):=λZ h=>by cases h;trivial
def H6(i:Addr):C3 (some (.obj i)):=λZ h=>by cases h;trivial
def uz:Dy []:=λi v h=>nO h rfl
def C7(h:C3 x)(k:Dy l):Dy (x::l):=λi v e=>by
 cases i with
 | zero=>exact h v e
 | succ i=>exact k i v e
def MM (m:Addr):Pl->Addr->Prop
 | .l,a=>a=m
 | _,_=>False
def v3(l:AE)(i j:Nat)(v:AV):Cz (AX l i v) j=Cz l j\/Cz (AX l i v) j=some v:=by
 induction l generalizing i j with
 | nil=>exact .inl rfl
 | cons x l C=>
  cases i with
  | zero=>cases j with
   | zero=>exact .inr rfl
   | succ j=>exact .inl rfl
  | succ i=>cases j with
   | zero=>exact .inl rfl
   | succ j=>exact C i j
def Hp(h:Dy l)(H:v.tf):Dy (AX l i v):=λj w e=>by
 rcases v3 l i j v with q| q
 ·rw[q] at e;exact h j w e
 ·rw[q] at e;cases e;exact H
set_option genInjectivity false in
set_option genSizeOf false in
structure XZ(Q:PE) where
 (σ:AH) (p il cl tl ml c1 dl:Addr) (as:List Addr) (P:AM) (cs t ds:List Int) (kind Ey GI:Int) (x0 x2 x4 x5 Zs Zt Zu Zv P0:Option AV)
 hQ:∀σ,Q (.bool true) σ
 K:P.Ok
 CK:Ds P cs
 A:Cx P
 ht:σ.A1 tl=some (t.map .int)
 hd:σ.A1 dl=some (ds.map .int)
 v5:ds.length=2
 n1:ml≠tl
 n2:ml≠cl
 n3:ml≠il
 nd:ml≠dl
 r:∀o∈t,0<=o/\o<256
 hl:t.length<=2
 hk:0<=kind/\kind<3
 hb:0<=Ey/\Ey<3
 hs:0<=GI/\GI<3
namespace XZ
variable{Q:PE}(x:XZ Q)
noncomputable abbrev Lc (y Y V l r j p A h:Option AV):AE:=[x.x0,some (.obj x.c1),x.x2,some (.int x.kind),x.x4,x.x5,some (.int x.Ey),some (.int x.GI),some (.obj x.p),some (.obj x.cl),x.Zs,x.Zt,y,x.Zu,x.Zv,x.P0,some (.obj x.tl),some (.obj x.ml),Y,V,l,r,j,p,A,h,none,none,none,none,none,none]
def E2(m:List Int)(t:AH)(l:Prop):Prop:=
 (KP (λp a=>MM x.ml p a\/x.σ.fresh a) x.σ t)->(EB t x.p x.il x.as x.P x.cl x.cs)->(t.tf)->(t.A1 x.ml=some (m.map .int))->l
def St(m:List Int)(t:AH):Prop:=Ch (x.E2 m t)
section
variable{x}(zh:x.St ms A7)
def St.kp:=zh _ λz Z Z Z=>z
def St.lv:=zh _ λZ z Z Z=>z
def St.tf:=zh _ λZ Z z Z=>z
def St.hm:=zh _ λZ Z Z z=>z
end
abbrev Mk(m:List Int):Prop:=∀(j:Nat) a b,x.t[j]?=some a->m[j]?=some b->(0<=b/\b<256)/\CB x.cs a=CB x.cs b
def JF(i:Nat)(L:AE)(t:AH)(n:Prop):Prop:=
 ∀m y Y V l r j p A h,x.St m t->m.length=i->x.Mk m->Dy (x.Lc y Y V l r j p A h)->L=x.Lc y Y V l r j p A h->n
def A0(i:Nat)(L:AE)(t:AH):Prop:=Ch (x.JF i L t)
def v7(T:AH)(y Y V l r j p A:Option AV)(L:AE)(t:AH)(m:Prop):Prop:=
 ∀h,t=T->Dy (x.Lc y Y V l r j p A h)->L=x.Lc y Y V l r j p A h->m
def J7(T:AH)(y Y V l r j p A:Option AV)(L:AE)(t:AH):Prop:=Ch (x.v7 T y Y V l r j p A L t)
variable{x}{ms:List Int}{A7:AH}
def St.new(s:x.St ms A7)(h:A7.fresh a)(H:∀v∈l,v.tf):x.St ms (A7.uL a l):=
 (λZ B=>B (s.kp.trans (KP.AX (.inl (.inr (s.kp.live _ h))))) (s.lv.kp (M:=M0) (KP.AX (.inr h.2.1)) (λZ w=>w) (λZ w=>w)) (s.tf.uL H) ((BI (BQ h s.hm)).trans s.hm))
def St.put(s:x.St ms A7)(m:Int):x.St (ms++[m]) (A7.uL x.ml (ms.map .int++[.int m])):=by
 have K:KP (MM x.ml) A7 (A7.uL x.ml (ms.map .int++[.int m])):=KP.AX (.inl rfl);have e:ms.map AV.int++[.int m]=(ms++[m]).map .int:=by rw[CX];rfl
 rw[e] at K⊢;exact(λZ B=>B (s.kp.trans (KP.AX (.inl (.inl rfl)))) (λZ B=>B (s.lv.pv.kp K (λw=>w) (λw=>x.n3 w.symm) (λZ Z w=>w)) s.lv.Fi s.lv.Fj s.lv.Fn ((BI (C1 x.n2)).trans s.lv.cl)) (s.tf.uL (Gv _)) AY)
end XZ
noncomputable abbrev FP (gt:Bool)(m:Int)(l:List Int):List AV:=(l.filter λn=>if gt then decide (m<n) else decide (n<=m)).map .int
def v8(h:0<=n):∃z,((cs.drop (n.toNat+1)).map AV.int++[AV.int 256])[0]?=some (.int z)/\FG cs n=z-1:=by
 haveI e:(n+1).toNat=n.toNat+1:=by exact A3 0x52020280454040012c0200040 [] [_] h
 unfold FG;by_cases g:n+1<cs.length
 ·rw[A6 g,e];haveI H:n.toNat+1<cs.length:=by exact AK 0x9005010140258040030a00a02000841 [_] [_] h g
  rw[List.drop_eq_getElem_cons H];exact⟨_,rfl,by rw[C4,Aw H];rfl⟩
 ·rw[A5 g,List.drop_eq_nil_of_le (by exact A3 0x84040500801230a00a02000841 [_] [_] g)];exact⟨256,rfl,rfl⟩
section
variable{I:Ag}(S:AU I Mg){Q:PE}{x:XZ Q}{ms:List Int}{A7:AH}{K:Fl->AE->AH->Prop}{i:Nat}{n o dg least Bz:Int}{DS Ml Ig H7 H8 F0 F1 Fp Fq:Option AV}
include S
def z7(F:∀L t,x.A0 (i+1) L t->K .next L t)(s:x.St ms t)(D:ms.length=i+1)(E:x.Mk ms)(n:H5 x.P x.cs o m)(tl:Dy (x.Lc DS (some (.int o)) Ig H7 H8 F0 F1 (some (.int m)) y)):
  AP I ((Bc CM 14).drop 7) K (x.Lc DS (some (.int o)) Ig H7 H8 F0 F1 (some (.int m)) y) t:=by
 exists s.lv.pv.AG,Er s.lv.pv.A1;refine DY (λZ=>x.J7 t DS (some (.int o)) Ig H7 H8 F0 F1 (some (.int m))) (λZ B=>B _ rfl tl rfl) ?_ ?_ ?_
 ·intro j L T h;refine h _ λy e Z Z=>?_;refine(e).symm▸?_;exact s.lv.pv.A1
 ·intro j v L T Q p h r G _ _ _;refine h _ λy A0 tl M=>?_;rcases A0 with rfl;rcases M with rfl
  rw[Bb] at r;refine AJ (BY.1 r) λl A N=>?_;subst N;rw[Ak,s.lv.pv.len] at p;haveI H:=Aw p;haveI C:=s.lv.pv.inst j l _ A H;haveI f:=n.fit _ (Bj H);refine⟨_,rfl,?_⟩;have nx:=G _ T (λZ B=>B (some (.obj l)) rfl (Hp tl (i:=25) (v:=.obj l) trivial) rfl);exists C.op;exact Ai (λg=>sp_i (S.g 17 rfl) ⟨_,C,sp_i (S.g 17 rfl) ⟨_,C,FE (λw=>Ad (f g) w) λZ=>nx⟩⟩) λg=>BW nx
 ·intro L T h;refine h _ λy Y tl O=>?_;rcases Y with rfl;rcases O with rfl
  exact F _ _ (λZ B=>B ms _ _ _ _ _ _ _ _ _ s D E tl rfl)
def z5(D:∀L t,x.A0 (i+1) L t->K .next L t)(s:x.St ms t)(l:ms.length=i)(p:x.Mk ms)(U:x.t[i]?=some o)(c:ClsAt x.cs o n)(f:x.cs.getD n.toNat 0=least)(N:FG x.cs n=Bz)(F:i<2)
  (tl:Dy (x.Lc DS (some (.int o)) (some (.int dg)) (some (.int least)) (some (.int Bz)) F0 F1 Fp Fq)):
  AP I ((Bc CM 14).drop 5) K (x.Lc DS (some (.int o)) (some (.int dg)) (some (.int least)) (some (.int Bz)) F0 F1 Fp Fq) t:=by
 have O:=x.r o (Bj U);haveI h:=c.lo;haveI H:=c.hi (A3 0x167f8860139880086012c0200040 [] [_] O);rw[f] at h;rw[N] at H;have A:=FO (a:=dg) (b:=Bz-least+1) (AK 0x310102422008005884112c02108c0 [] [_,_,_] h H);exists trivial,trivial,(A3 0x11a0020204844013988081211004212c42000c0 [] [_,_,_] A:Bz-least+1≠0),trivial;have C:=u5 x.CK (m:=least+dg.fmod (Bz-least+1)) c.n0 c.n1 (by rw[f];exact A3 0x2d011004013988081201084112c22000c0 [] [_,_,_] A) (by rw[N];exact A3 0x2c424044013988081201084112c22000c0 [] [_,_,_] A);generalize P:least+dg.fmod (Bz-least+1)=KW at C;have e:Dv.val .add least (Dv.val .mod dg (Dv.val .add (Dv.val .sub Bz least) 1))=KW:=P;refine(e).symm▸?_;have A0:CB x.cs o=CB x.cs KW:=c.eq.trans C.1.symm;have M:0<=KW/\KW<256:=⟨C.2.1,Int.lt_add_one_of_le C.2.2⟩;exists s.hm,s.hm,rm (by rw[l];exact A3 0x47a12010600a44000441 [_] [] F),.inl rfl;refine z7 S D (s.put KW) (by rw[CE,l];rfl) (λj a b h H=>?_) (Zk x.CK x.A O M A0) (Hp tl (i:=24) (v:=.int KW) trivial);obtain ⟨_,H⟩| ⟨rfl,rfl⟩:=FI H
 ·exact p j a b h H
 ·rw[l,U] at h;cases h;exact⟨M,A0⟩
def z2(W:∀L t,x.A0 (i+1) L t->K .next L t)(s:x.St ms t)(B:ms.length=i)(G:x.Mk ms)(V:x.t[i]?=some o)(c:ClsAt x.cs o n)(j:x.cs.getD n.toNat 0=least)(C:FG x.cs n=Bz)(F:i<2)
  (tl:Dy (x.Lc (some (.int n)) (some (.int o)) (some (.int dg)) (some (.int least)) (some (.int Bz)) F0 F1 Fp Fq)):
  AP I ((Bc CM 14).drop 2) K (x.Lc (some (.int n)) (some (.int o)) (some (.int dg)) (some (.int least)) (some (.int Bz)) F0 F1 Fp Fq) t:=by
 have E3:x.cs.length<=1000000:=BE (Nat.le_of_lt x.CK.len) (AN rfl);have N:=c.n0;haveI U:=c.n1;exists s.lv.cl,ints_map _;refine A8 E3 λa M=>?_;haveI E:FP false o x.cs=(x.cs.take (n.toNat+1)).map .int:=AO (List.map AV.int) c.ins;haveI m:FP true o x.cs=(x.cs.drop (n.toNat+1)).map .int:=AO (List.map AV.int) c.u2;haveI p:=s.new M (l:=FP false o x.cs) (Gv _);haveI h:(t.uL a (FP false o x.cs)).A1 a=some ((x.cs.take (n.toNat+1)).map .int):=AY.trans (AO some E);exists p.lv.cl,ints_map _;refine A8 E3 λb d=>?_;haveI l:=p.new d (l:=FP true o x.cs) (Gv _);have h:((t.uL a (FP false o x.cs)).uL b (FP true o x.cs)).A1 a=some ((x.cs.take (n.toNat+1)).map .int):=(BI (BQ d h)).trans h;haveI H:((t.uL a (FP false o x.cs)).uL b (FP true o x.cs)).A1 b=some ((x.cs.drop (n.toNat+1)).map .int):=AY.trans (AO some m);haveI tl:=Hp (Hp tl (i:=22) (v:=.obj a) trivial) (i:=23) (v:=.obj b) trivial;refine(?_:AP I ((Bc CM 14).drop 4) K (x.Lc (some (.int n)) (some (.int o)) (some (.int dg)) (some (.int least)) (some (.int Bz)) (some (.obj a)) (some (.obj b)) Fp Fq) ((t.uL a (FP false o x.cs)).uL b (FP true o x.cs)));generalize (t.uL a (FP false o x.cs)).uL b (FP true o x.cs)=Z7 at l h H⊢;have T:((x.cs.take (n.toNat+1)).map AV.int).length=n.toNat+1:=by rw[Ak,List.length_take];exact AK 0xa40405009400a0202804b008006140100841 [_] [_] N U
 refine Or.inl (Exists.intro _ (A8 h (A8 (by unfold room;exact CA 0x23d0900830051e848041842c28420129010140200482 [_,_] [_] E3 U T) (A8 trivial ?_))));refine DL (λw=>Ad (by rw[T];refine(?_:n=((n.toNat+1:Nat):Int)-1);exact A3 0x6a4202a0202804012c0200040 [] [_] N) w) λZ=>?_;have A:((x.cs.take (n.toNat+1)).map AV.int)[n.toNat]?=some (.int least):=by
  rw[Bb,List.getElem?_take,A6 (GQ _),getD_some (by exact AK 0x24012804b008006140100841 [_] [_] N U:n.toNat<x.cs.length),j];rfl
 have P:BF (-1) ((x.cs.take (n.toNat+1)).map AV.int).length=some n.toNat:=by
  rw[T];unfold BF;rw[A5 (by decide),A6 (by exact Ae 0x164080854040500840 [] [_])];exact AO some (Ae 0x145008a82a0202804408040 [] [_])
 exists BC (Ae 0x2c81013b9aca0030c00 [] []) (Ae 0x17dcd6500186408000 [] []),h,P,A;refine DL (λw=>Ad rfl w) λZ=>?_;refine A8 (AN rfl) λe g=>?_;have X:=l.new g (l:=[.int 256]) (Gv [256]);exists (BI (BQ g H)).trans H,AY;have D:(x.cs.drop (n.toNat+1)).length<=1000:=by haveI:=x.CK.len;rw[List.length_drop];exact A3 0x23e810d28080a0100291004300441 [_] [_] this
 refine A8 (by unfold room;rw[Ak];exact BE (Nat.add_le_add_right D 1) (AN rfl)) λf r=>?_;have Y:=X.new r (l:=(x.cs.drop (n.toNat+1)).map .int++[.int 256]) (λv O=>by
  obtain w| w:=Bq.1 O
  ·exact Gv _ v w
  ·rw[Az.1 w];trivial)
 refine AJ (v8 (cs:=x.cs) N) λz Q R=>?_;have A0:BF 0 ((x.cs.drop (n.toNat+1)).map AV.int++[AV.int 256]).length=some 0:=by
  rw[CE];exact Dm (Int.le_refl _) (Int.natCast_pos.2 (Nat.succ_pos _))
 exists BC (Ae 0x160013b9aca0030c00 [] []) (Ae 0xbee6b2800c300000 [] []),AY,A0,Q,trivial;exact DL (λw=>Ad (C.symm.trans R) w) λZ=>z5 S W Y B G V c j C F tl
def z0(D:∀L t,x.A0 (i+1) L t->K .next L t)(s:x.St ms t)(j:ms.length=i)(n:x.Mk ms)(h:x.t[i]?=some o)(F:i<2)(tl:Dy (x.Lc DS (some (.int o)) (some (.int dg)) H7 H8 F0 F1 Fp Fq)):
  AP I (Bc CM 14) K (x.Lc DS (some (.int o)) (some (.int dg)) H7 H8 F0 F1 Fp Fq) t:=by
 haveI H:=x.r o (Bj h);haveI c:=u3 x.CK H.1;obtain ⟨r,E⟩:=x.CK.hd;haveI E3:room x.cs.length:=BE (Nat.le_of_lt x.CK.len) (AN rfl);refine sp_i (S.g 11 rfl) ⟨x.cs,s.lv.cl,BE (Nat.le_of_lt x.CK.len) (AN rfl),x.CK.Jh,⟨0,r,E,H.1⟩,?_⟩;refine sp_i (S.g 12 rfl) ⟨x.cs,s.lv.cl,E3,c.n0,c.n1,sp_i (S.g 13 rfl) ⟨x.cs,s.lv.cl,E3,c.n0,c.n1,A8 (AN rfl) ?_⟩⟩;exact z2 S D s j n h c rfl rfl F (Hp (Hp (Hp tl (i:=12) (v:=.int (CB x.cs o)) trivial) (i:=20) (v:=.int (x.cs.getD (CB x.cs o).toNat 0)) trivial) (i:=21) (v:=.int (FG x.cs (CB x.cs o))) trivial)
def v9(s:x.St [] A7)(tl:Dy (x.Lc DS Ml Ig H7 H8 F0 F1 Fp Fq)):forA (λJ Aq=>Aq.A1 x.tl=some (x.t.map .int)/\Aq.A1 x.dl=some (x.ds.map .int)/\Dy J/\Aq.tf) [18,19] (λK l σ=>AP I (Bc CM 14) K l σ) (Cs (AP I (CM.drop 15) (BB Q)) (BB Q)) (((x.t.map AV.int).zip (x.ds.map AV.int)).map λp=>.AA [p.1,p.2]) (x.Lc DS Ml Ig H7 H8 F0 F1 Fp Fq) A7:=by
 haveI Hd:=x.v5;refine DY x.A0 (λZ zK=>zK [] _ _ _ _ _ _ _ _ _ s rfl (λj a b Z h=>(by cases h)) tl rfl) ?_ ?_ ?_
 ·intro i L A7 zz;refine zz _ λms DS Ml Ig H7 H8 F0 F1 Fp Fq s Z Z tl y3=>?_;rcases y3 with rfl
  exact⟨s.kp.drop.A1 _ _ x.ht (λw=>x.n1 w.symm),s.kp.drop.A1 _ _ x.hd (λw=>x.nd w.symm),tl,s.tf⟩
 ·intro i v L A7 KK hi zz hv kn _ _ _;refine zz _ λms DS Ml Ig H7 H8 F0 F1 Fp Fq s Tj P1 tl y2=>?_;rcases y2 with rfl
  rw[Ak,List.length_zip,Ak,Ak,Hd] at hi;have hit:i<x.t.length:=Fv hi (Nat.min_le_left _ _);have vA:i<x.ds.length:=by rw[Hd];exact Fv hi (Nat.min_le_right _ _)
  haveI ho:=Aw hit;haveI aH:=Aw vA;generalize x.t[i]=o at ho;generalize x.ds[i]=dg at aH;haveI hz:((x.t.map AV.int).zip (x.ds.map AV.int))[i]?=some (.int o,.int dg):=List.getElem?_zip_eq_some.2 ⟨by rw[Bb,ho];rfl,by rw[Bb,aH];rfl⟩;rw[Bb,hz] at hv;rcases BL hv with rfl
  refine⟨_,rfl,?_⟩;exact z0 S (λL A7 w=>kn L A7 w) s Tj P1 ho (Fv hi (Nat.min_le_right _ _)) (Hp (Hp tl (i:=18) (v:=.int o) trivial) (i:=19) (v:=.int dg) trivial)
 ·intro L A7 zz;refine zz _ λms DS Ml Ig H7 H8 F0 F1 Fp Fq s Tj P1 tl y1=>?_;rcases y1 with rfl
  have aJ:ms.length=x.t.length:=by rw[Tj,Ak,List.length_zip,Ak,Ak,Hd];exact Nat.min_eq_left x.hl
  haveI rm:∀y∈ms,0<=y/\y<256:=λy hy=>by
   refine AW (List.getElem?_of_mem hy) λj hj=>?_;haveI vB:=(D6.1 hj).1;exact(P1 j _ y (Aw (aJ▸vB)) hj).1
  refine um S x.hQ s.lv x.K x.CK x.A (s.kp.drop.A1 _ _ x.ht (λw=>x.n1 w.symm)) s.hm (λZ zK=>zK aJ.symm (λj a b h1 h2=>.inr ?_)) x.r rm x.hl x.hk x.hb x.hs;refine Ac (λq1 q2=>?_) (P1 j a b h1 h2);exact Zk x.CK x.A (x.r a (Bj h1)) q1 q2
def vC{Q:PE}(hQ:∀D,Q (.bool true) D){D:AH}{p C:Addr}{A:List Addr}{P:AM}{c:Addr}{o:List Int}(V:EB D p C A P c o)(tp:Bp D p)(ta:∀a∈A,Bp D a)(Ka:P.Ok)(CK:Ds P o)(Aa:Cx P){tl m c1:Addr}{t K:List Int}(d:D.A1 tl=some (t.map .int))(R:D.A1 m=some [])
  (N:D.A1 c1=some (K.map .int)) (E1:K.length=7) (n1:m≠tl) (n2:m≠c) (n3:m≠C) (n4:m≠c1)
  (ra:∀oa∈t,0<=oa/\oa<256) (hl:t.length<=2) {F E A0:Int} (hk:0<=F/\F<3) (hb:0<=E/\E<3) (hs:0<=A0/\A0<3)
  {X Y l n U y Th O W j:Option AV} (t0:C3 X) (t2:C3 Y) (t4:C3 l) (t5:C3 n) (vD:C3 U) (vE:C3 y) (vF:C3 Th) (vG:C3 O) (vH:C3 W) (vI:C3 j):
  AP I (CM.drop 13) (BB Q) [X,some (.obj c1),Y,some (.int F),l,n,some (.int E),some (.int A0),some (.obj p),some (.obj c),U,y,Th,O,W,j,some (.obj tl),some (.obj m),none,none,none,none,none,none,none,none,none,none,none,none,none,none] D:=by
 haveI vJ:AU I KR:=S.dr 5;haveI vK:AU I Gx:=vJ.dr 2;let M:Addr->Prop:=λa=>a=p\/a∈A
 let T:Addr->Prop:=λa=>a=C\/a=c\/a=tl\/a=m\/a=c1
 refine⟨Ez D M T,ux _ _ _,?_⟩;haveI aK:(Ez D M T).tf:=uy (λa L=>L.elim (λe=>e▸tp) (ta a)) (λa la L h=>by
  obtain rfl| rfl| rfl| rfl| rfl:=L
  ·rw[V.pv.A1] at h;cases h;intro v r;refine AJ (DT.1 r) λx Z Br=>?_;subst Br;trivial
  ·rw[V.cl] at h;cases h;exact Gv _
  ·rw[d] at h;cases h;exact Gv _
  ·rw[R] at h;cases h;exact λv r=>by cases r
  ·rw[N] at h;cases h;exact Gv _)
 haveI V0:EB (Ez D M T) p C A P c o:=by
  haveI g:(Ez D M T).A4 p=D.A4 p:=Ti (.inl rfl) (nn V.pv.cls);haveI v:=V.pv;refine(λZ B=>B (λZ B=>B (by rw[aG (.inl rfl)];exact v.cls) (by rw[g];exact v.AG) (by rw[Mj (.inl rfl)];exact v.A1) v.len (λi a Ra q1 q2=>?_) (by rw[g];exact v.start) (by rw[g];exact v.loose) (by rw[g];exact v.rev) (by rw[g];exact v.DE) (by rw[g];exact v.CO)) (by rw[g];exact V.Fi) (by rw[g];exact V.Fj) (by rw[g];exact V.Fn) (by rw[Mj (.inr (.inl rfl))];exact V.cl));have w:=v.inst i a Ra q1 q2;haveI G:(Ez D M T).A4 a=D.A4 a:=Ti (.inr (Bj q1)) (nn w.cls);exact(λZ B=>B (by rw[aG (.inr (Bj q1))];exact w.cls) (by rw[G];exact w.op) (by rw[G];exact w.out) (by rw[G];exact w.arg) (by rw[G];exact w.B1) (by rw[G];exact w.Ax) (by rw[G];exact w.fold) (by rw[G];exact w.last))
 haveI NY:(Ez D M T).A1 tl=some (t.map .int):=by rw[Mj (.inr (.inr (.inl rfl)))];exact d
 haveI Nw:(Ez D M T).A1 m=some (([]:List Int).map .int):=by rw[Mj (.inr (.inr (.inr (.inl rfl))))];exact R
 haveI R6:(Ez D M T).A1 c1=some (K.map .int):=by rw[Mj (.inr (.inr (.inr (.inr rfl))))];exact N
 clear V d R N tp ta;generalize Ez D M T=Tn at aK V0 NY Nw R6;haveI h6:BF 6 K.length=some 6:=by rw[E1];rfl
 refine(DX (BC (Ae 0x166013b9aca0030c00 [] []) (Ae 0xbee6b2800c330000 [] [])) R6 (DW h6) (Ja (n:=6) (by rw[E1];decide)) ?_:);exists AN rfl;intro b vL;haveI kb:KP M0 Tn (Tn.uL b [.int 256,.int 256]):=KP.AX (.inr vL.2.1);have vM:(Tn.uL b [.int 256,.int 256]).tf:=aK.uL (Gv [256,256]);refine sp_i (vK.g 85 rfl) ⟨[256,256],AY,AN rfl,λx hx=>by simp at hx;exact A3 0x1cbfa043009601040d4004300840 [] [_] hx,λG9 dl k1 vN Z H=>?_⟩;have f:=kb.trans k1;have aL:=f.A1 _ _ Nw (λw=>w);have aM:=f.A1 _ _ NY (λw=>w);haveI vO:m≠dl:=λe=>by rw[<-e,aL] at H;cases H
 let x:XZ Q:=⟨G9,p,C,c,tl,m,c1,dl,A,P,o,t,_,F,E,A0,X,Y,l,n,U,y,O,W,j,hQ,Ka,CK,Aa,aM,H,rfl,n1,n2,n3,vO,ra,hl,hk,hb,hs⟩
 refine A8 (AN rfl) ?_;exists ka aM H;exact v9 S (x:=x) (λZ B=>B KP.refl (V0.kp f (λZ w=>w) (λZ w=>w)) (vN vM) aL) (C7 t0 (C7 (H6 _) (C7 t2 (C7 (Ie _) (C7 t4 (C7 t5 (C7 (Ie _) (C7 (Ie _) (C7 (H6 _) (C7 (H6 _) (C7 vD (C7 vE (C7 vF (C7 vG (C7 vH (C7 vI (C7 (H6 _) (C7 (H6 _) (C7 EC (C7 EC (C7 EC (C7 EC (C7 EC (C7 EC (C7 EC (C7 EC (C7 EC (C7 EC (C7 EC (C7 EC (C7 EC (C7 EC uz))))))))))))))))))))))))))))))))
end
def Mm{S:AH}{p a:Addr}{l:List AV}(f:S.fresh p)(h:S.A1 a=some l):a≠p:=λe=>by have:=f.2.1;rw[<-e,h] at this;cases this
set_option genInjectivity false in
set_option genSizeOf false in
structure XM(Q:PE) where
 (p il cl c1 na aa:Addr) (as:List Addr) (P:AM) (cs cells nd al:List Int) (kind Ey GI:Int) (x0 x2 x4 x5:Option AV)
 hQ:∀σ,Q (.bool true) σ
 K:P.Ok
 CK:Ds P cs
 A:Cx P
 E1:cells.length=7
 J0:∀x∈nd,x∈cs
 H2:∀x∈cs,x∈al
 hk:0<=kind/\kind<3
 hb:0<=Ey/\Ey<3
 hs:0<=GI/\GI<3
 t0:C3 x0
 t2:C3 x2
 t4:C3 x4
 t5:C3 x5
namespace XM
variable{Q:PE}(x:XM Q)
noncomputable abbrev Lc (y Y N:Option AV):AE:=[x.x0,some (.obj x.c1),x.x2,some (.int x.kind),x.x4,x.x5,some (.int x.Ey),some (.int x.GI),some (.obj x.p),some (.obj x.cl),some (.obj x.na),some (.obj x.aa),y,Y,N,none,none,none,none,none,none,none,none,none,none,none,none,none,none,none,none,none]
def E2(S:AH)(l:Prop):Prop:=
 (EB S x.p x.il x.as x.P x.cl x.cs)->(Bp S x.p)->(∀a∈x.as,Bp S a)->(S.A1 x.c1=some (x.cells.map .int))->(S.A1 x.na=some (x.nd.map .int))->(S.A1 x.aa=some (x.al.map .int))->l
def St(S:AH):Prop:=Ch (x.E2 S)
section
variable{x}(zh:x.St σ)
def St.V:=zh _ λz Z Z Z Z Z=>z
def St.tp:=zh _ λZ z Z Z Z Z=>z
def St.ta:=zh _ λZ Z z Z Z Z=>z
def St.hc:=zh _ λZ Z Z z Z Z=>z
def St.hn:=zh _ λZ Z Z Z z Z=>z
def St.ha:=zh _ λZ Z Z Z Z z=>z
end
def vP(S:AH)(i:Nat)(L:AE)(t:AH)(l:Prop):Prop:=
 ∀y Y,t=S->C3 y->C3 Y->L=x.Lc y Y none->l
def J9(S:AH)(i:Nat)(L:AE)(t:AH):Prop:=Ch (x.vP S i L t)
def Rd(S:AH)(Y a:Option AV)(i:Nat)(L:AE)(t:AH)(l:Prop):Prop:=
 ∀y,t=S->C3 y->L=x.Lc Y a y->l
def Rf(S:AH)(y Y:Option AV)(i:Nat)(L:AE)(t:AH):Prop:=Ch (x.Rd S y Y i L t)
variable{x}{σ A7:AH}
def St.Ao(s:x.St σ)(k:KP M0 σ A7):x.St A7:=
 (λZ B=>B (s.V.kp k (λZ w=>w) (λZ w=>w)) (s.tp.kp k (by rw[s.V.pv.cls];exact λw=>by cases w) (λw=>w)) (λa h=>(s.ta a h).kp k (by rw[s.V.pv.Ei h];exact λw=>by cases w) (λw=>w)) (k.A1 _ _ s.hc (λw=>w)) (k.A1 _ _ s.hn (λw=>w)) (k.A1 _ _ s.ha (λw=>w)))
def E3:x.cs.length<=1000000:=BE (Nat.le_of_lt x.CK.len) (AN rfl)
end XM
def Mn(l:List Int)(z:Int):∀y∈l.map AV.int,CR 3 y (.int z):=λy h=>by
 refine AJ (DT.1 h) λu Z A=>?_;subst A;trivial
def P2{p:Prop}{_:Decidable p}{A B:Prop}(h:p)(b:B):((true^^decide p)=true->A)/\((true^^decide p)=false->B):=FE (λw=>Ad h w) λZ=>b
def neT{p:Prop}{_:Decidable p}{A B:Prop}(h:p)(b:B):((!decide p)=true->A)/\((!decide p)=false->B):=DL (λw=>Ad h w) λZ=>b
section
variable{I:Ag}(S:AU I Mg){Q:PE}{x:XM Q}{σ:AH}{DS Ji P4:Option AV}
include S
def vQ{H D p:Int}(s:x.St σ)(e:σ.A1 d=some ([H,D,p].map .int))(y:0<=H/\H<3)(K:0<=D/\D<256)(W:0<=p/\p<256)(T:C3 DS)(G:C3 Ji)(A0:C3 P4):
  AP I (CM.drop 12) (BB Q) (AX (x.Lc DS Ji P4) 15 (.obj d)) σ:=by
 exists BC (Ae 0x160013b9aca0030c00 [] []) (Ae 0xbee6b2800c300000 [] []),e,(rfl:BF 0 ([H,D,p].map AV.int).length=some 0),(rfl:([H,D,p].map AV.int)[0]?=some (.int H)),trivial,Int.one_nonneg,(show 1<=1+H by exact A3 0xb400410040e60c0012c0200040 [] [_] y),BC (i:=1+H) (A3 0x5a0020809dcd6500186e60c0012c0200040 [] [_] y) (A3 0x2fb9aca0030d001040e60c0012c0200040 [] [_] y),e,AN rfl,(show 1+H<=((3:Nat):Int) by exact A3 0x165181001040e60c0012c0200040 [] [_] y);intro tl C;generalize V:([D,p]:List Int).take H.toNat=t;have P:((([H,D,p]:List Int).map AV.int).drop (1:Int).toNat).take (1+H-1).toNat=t.map .int:=by
  rw[show 1+H-1=H by exact Ae 0xd009210200208040 [] [_],<-V,List.map_take];rfl
 have E:((([H,D,p]:List Int).map AV.int).drop (1:Int).toNat).take (Dv.val .add 1 H-1).toNat=t.map .int:=P;refine(E).symm▸?_;have k1:KP M0 σ (σ.uL tl (t.map .int)):=KP.AX (.inr C.2.1);have f:=s.Ao k1;refine A8 (AN rfl) λm F=>A8 (AN rfl) ?_;haveI A:=f.Ao (KP.AX (l:=[]) (.inr F.2.1));have n:∀{a:Addr} {l:List AV},(σ.uL tl (t.map .int)).A1 a=some l->m≠a:=λh=>C1 (BQ F h);have c:∀o∈t,o=D\/o=p:=λo U=>by
  rw[<-V] at U;haveI U:=List.mem_of_mem_take U;rcases Co.1 U with w| w
  ·exact .inl w
  ·exact .inr (Az.1 w)
 haveI g:((σ.uL tl (t.map .int)).uL m []).A1 tl=some (t.map .int):=(BI (BQ F AY)).trans AY;exact vC S x.hQ A.V A.tp A.ta x.K x.CK x.A g AY A.hc x.E1 (n AY) (n f.V.cl) (n f.V.pv.A1) (n f.hc)
  (λo U=>by rcases c o U with rfl| rfl<;>assumption) (by rw[<-V,List.length_take];exact Nat.min_le_right _ _) x.hk x.hb x.hs x.t0 x.t2 x.t4 x.t5 (H6 _) (H6 _) T G A0 (H6 _)
def vR(s:x.St σ)(t:C3 DS)(T:C3 Ji)(A0:C3 P4):AP I (CM.drop 11) (BB Q) (x.Lc DS Ji P4) σ:=by
 haveI j:AU I KR:=S.dr 5;haveI f:AU I Gx:=j.dr 2;haveI H:BF 5 x.cells.length=some 5:=by rw[x.E1];rfl
 exists BC (Ae 0x165013b9aca0030c00 [] []) (Ae 0xbee6b2800c328000 [] []),s.hc,DW H,Ja (n:=5) (by rw[x.E1];decide),AN rfl;intro b l;refine sp_i (f.g 85 rfl) ⟨[3,256,256],AY,AN rfl,λx h=>by simp at h;exact A3 0x72fe810c025804103da8008601346000840 [] [_] h,λC d k2 Z Z e=>?_⟩;haveI o:=s.Ao ((KP.AX (l:=[.int 3,.int 256,.int 256]) (.inr l.2.1)).trans k2);exact vQ S o e (FO (by decide)) (FO (by decide)) (FO (by decide)) t T A0
def vS(s:x.St σ)(T:C3 DS)(F:C3 Ji):AP I (CM.drop 10) (BB Q) (x.Lc DS Ji none) σ:=by
 exists Er s.hn;refine DY (x.Rf σ DS Ji) (λZ B=>B none rfl EC rfl) ?_ ?_ ?_
 ·intro i L t h;refine h _ λZ e Z Z=>?_;rw[e];exact s.hn
 ·intro i v L t G C h H K _ _ _;refine h _ λy r Z g=>?_;rcases r with rfl;rcases g with rfl
  rw[Bb] at H;refine AJ (BY.1 H) λz c A=>?_;subst A;refine⟨_,rfl,?_⟩;exists s.V.cl;exact A8 (Mn _ _) (P2 (HC (x.J0 z (Bj c))) (K _ _ (λZ B=>B (some (.int z)) rfl (Ie _) rfl)))
 ·intro L t h;refine h _ λy Y A0 w=>?_;rcases Y with rfl;rcases w with rfl
  exact vR S s T F A0
def m9(s:x.St σ):AP I (CM.drop 9) (BB Q) (x.Lc none none none) σ:=by
 exists Xw s.V.cl;refine DY (x.J9 σ) (λZ B=>B none none rfl EC EC rfl) ?_ ?_ ?_
 ·intro i L t a;refine a _ λZ Z e Z Z Z=>?_;rw[e];exact s.V.cl
 ·intro i v L t C h a H D _ _ _;refine a _ λY d l Z Z G=>?_;rcases l with rfl;rcases G with rfl
  rw[Ak,List.length_zipIdx,Ak] at h;haveI c:=Aw h;rw[Bb,List.getElem?_zipIdx,Bb,c] at H;generalize j:x.cs[i]=z at H c;haveI H:AV.AA [.int ((0+i:Nat):Int),.int z]=v:=BL H;rw[Nat.zero_add] at H;subst H;haveI nx:=D _ t (λZ B=>B (some (.int i)) (some (.int z)) rfl (Ie _) (Ie _) rfl);refine⟨_,rfl,?_⟩;exists s.ha;refine A8 (Mn _ _) (P2 (HC (x.H2 z (Bj c))) (Ai (λg=>?_) λZ=>BW nx));haveI E3:=x.CK.len;haveI K:word ((i:Int)-1):=BC (Ae 0x169080a0093b9aca0030c41 [_] []) (AK 0xbee6b2800c34840500521080291004308482 [_,_] [] h E3);haveI p:((i:Int)-1).toNat<x.cs.length:=A3 0x9084a9080a00a42100482 [_,_] [] h;exists trivial,K,s.V.cl,DW (Dm (show 0<=(i:Int)-1 by exact A3 0xb48405004006140100041 [_] [] g) (show (i:Int)-1<x.cs.length by exact A3 0xc28429080a00a42100482 [_,_] [] h)),Ja p;refine Ai (λw=>Ad w (Int.ne_of_lt ?_)) λZ=>nx;rw[<-j,C4,Aw p];exact List.pairwise_iff_getElem.1 x.CK.Jh _ i p h (A3 0x12009521014016140100041 [_] [] g)
 ·intro L t a;refine a _ λY d y T F O=>?_;rcases y with rfl;rcases O with rfl
  exact vS S s T F
def m8(s:x.St σ):AP I (CM.drop 8) (BB Q) (x.Lc none none none) σ:=by
 refine AW x.CK.hd λr E=>?_;have p:BF 0 x.cs.length=some 0:=by rw[E];exact Dm (Int.le_refl _) (Int.natCast_pos.2 (Nat.succ_pos _))
 haveI g:(x.cs.map AV.int)[0]?=some (.int 0):=by rw[E];rfl
 refine(DX (BC (Ae 0x160013b9aca0030c00 [] []) (Ae 0xbee6b2800c300000 [] [])) s.V.cl (DW p) g ?_:);refine BW ?_;exists s.V.cl,ints_map _,x.CK.len;intro a f;have D:=s.Ao (KP.AX (l:=(sortI x.cs).map .int) (.inr f.2.1));exists D.V.cl,AY;refine A8 (λj x y h H=>Mh _ _ j x y h H 3) (P2 (by rw[tu x.CK.Jh]) ?_);refine sp_i (S.g 14 rfl) ⟨x.cs,D.V.cl,x.E3,Or.inl (Exists.intro _ (A8 D.V.cl (A8 (rm x.E3) (neT (by rw[Ak]) ?_))))⟩;refine sp_i (S.g 10 rfl) (.inl ⟨x.cl,D.V.Fn,D.V.pv.cls,?_⟩);exists D.V.cl,D.V.cl;exact A8 (λj x y h H=>Mh _ _ j x y h H 3) (P2 (by rfl) (m9 S D))
def vT{Q:PE}(h:∀D,Q (.bool true) D){D:AH}{p C:Addr}{w:List Addr}{P:AM}{F:Addr}{c:List Int}(V:EB D p C w P F c)(m:Bp D p)(j:∀a∈w,Bp D a)(K:P.Ok)(T:Ds P c)(A:Cx P){c1:Addr}{L:List Int}
  (O:D.A1 c1=some (L.map .int)) (f:L.length=7) {n X:Addr} {nd W:List Int} (U:D.A1 n=some (nd.map .int)) (H:D.A1 X=some (W.map .int)) (v:∀x∈nd,x∈c) (A0:∀x∈c,x∈W)
  {E B G:Int} (R:0<=E/\E<3) (e:0<=B/\B<3) (y:0<=G/\G<3)
  {N t M d:Option AV} (Y:C3 N) (t2:C3 t) (t4:C3 M) (g:C3 d):
  AP I (CM.drop 8) (BB Q) [N,some (.obj c1),t,some (.int E),M,d,some (.int B),some (.int G),some (.obj p),some (.obj F),some (.obj n),some (.obj X),none,none,none,none,none,none,none,none,none,none,none,none,none,none,none,none,none,none,none,none] D:=
 m8 S (x:=⟨p,C,F,c1,n,X,w,P,c,L,nd,W,E,B,G,N,t,M,d,h,K,T,A,f,v,A0,R,e,y,Y,t2,t4,g⟩) (λZ l=>l V m j O U H)
end
def zw(l:List Ay):∀v∈l.map Bo,True:=λZ Z=>trivial
set_option genInjectivity false in
set_option genSizeOf false in
structure X9(Q:PE) where
 (sc c ll l0 l1 l2:Addr) (cells:List Int) (r0 r1:List Ay) (kind bound way Ey GI:Int)
 hQ:∀σ,Q (.bool true) σ
 E1:cells.length=7
 n0:r0.length<=2
 Eu:∀r∈r0,Cw r
 n1:r1.length<=2
 Ew:∀r∈r1,Cw r
 hk:0<=kind/\kind<3
 hb:0<=Ey/\Ey<3
 hs:0<=GI/\GI<3
namespace X9
variable{Q:PE}(x:X9 Q)
noncomputable abbrev Lc (y Y:Option AV):AE:=[some (.obj x.sc),some (.obj x.c),some (.obj x.ll),some (.int x.kind),some (.int x.bound),some (.int x.way),some (.int x.Ey),some (.int x.GI),y,Y,none,none,none,none,none,none,none,none,none,none,none,none,none,none,none,none,none,none,none,none,none,none]
def vU(S:AH)(l:Prop):Prop:=
 (S.A1 x.c=some (x.cells.map .int))->(S.A1 x.ll=some [.obj x.l0,.obj x.l1,.obj x.l2])->(S.A1 x.l0=some (x.r0.map Bo))->(S.A1 x.l1=some (x.r1.map Bo))->(S.A1 x.l2=some ([Cj].map Bo))->l
def Ls(S:AH):Prop:=Ch (x.vU S)
section
variable{x}(zh:x.Ls σ)
def Ls.hc:=zh _ λz Z Z Z Z=>z
def Ls.hl:=zh _ λZ z Z Z Z=>z
def Ls.h0:=zh _ λZ Z z Z Z=>z
def Ls.h1:=zh _ λZ Z Z z Z=>z
def Ls.h2:=zh _ λZ Z Z Z z=>z
end
def vV(p:Addr)(l:Prop):Prop:=
 (x.c≠p)->(x.ll≠p)->(x.l0≠p)->(x.l1≠p)->(x.l2≠p)->l
def Ne(p:Addr):Prop:=Ch (x.vV p)
section
variable{x}(zh:x.Ne p)
def Ne.c:=zh _ λz Z Z Z Z=>z
def Ne.l:=zh _ λZ z Z Z Z=>z
def Ne.l0:=zh _ λZ Z z Z Z=>z
def Ne.l1:=zh _ λZ Z Z z Z=>z
def Ne.l2:=zh _ λZ Z Z Z z=>z
end
abbrev rs:List (List Ay):=[x.r0,x.r1,[Cj]]
variable{x}{σ A7:AH}
def Ls.Ao(s:x.Ls σ)(k:∀a l,σ.A1 a=some l->A7.A1 a=some l):x.Ls A7:=(λZ B=>B (k _ _ s.hc) (k _ _ s.hl) (k _ _ s.h0) (k _ _ s.h1) (k _ _ s.h2))
def Ls.Et(s:x.Ls σ)(n:x.Ne p)(k:∀a l,σ.A1 a=some l->a≠p->A7.A1 a=some l):x.Ls A7:=(λZ B=>B (k _ _ s.hc n.c) (k _ _ s.hl n.l) (k _ _ s.h0 n.l0) (k _ _ s.h1 n.l1) (k _ _ s.h2 n.l2))
def Ls.ne(s:x.Ls σ)(f:σ.fresh p):x.Ne p:=(λZ B=>B (Mm f s.hc) (Mm f s.hl) (Mm f s.h0) (Mm f s.h1) (Mm f s.h2))
def aP(h:r∈x.r0++x.r1++[Cj]):r∈x.r0\/r∈x.r1\/r∈[Cj]:=by
 obtain w| w:=Bq.1 h
 ·exact(Bq.1 w).imp id .inl
 ·exact .inr (.inr w)
end X9
section
variable{I:Ag}(S:AU I Mg){Q:PE}{x:X9 Q}{σ:AH}{p il cl:Addr}{as:List Addr}{P:AM}{lp:Bool}
include S
def e7(s:x.Ls σ)(V:EB σ p il as P cl (cutsOf P.AG))(tp:Bp σ p)(ta:∀a∈as,Bp σ a)(D:P.AG=DR lp x.rs)(K:P.Ok)(T:Ds P (cutsOf P.AG))(A:Cx P):AP I (CM.drop 7) (BB Q) (x.Lc (some (.obj p)) (some (.obj cl))) σ:=by
 haveI d:AU I Om:=S.dr 3;haveI N:=x.n0;haveI X:=x.n1;haveI t:word 0:=BC (Ae 0x160013b9aca0030c00 [] []) (Ae 0xbee6b2800c300000 [] []);haveI W:word 1:=BC (Ae 0x161013b9aca0030c00 [] []) (Ae 0xbee6b2800c308000 [] []);haveI v:word 2:=BC (Ae 0x162013b9aca0030c00 [] []) (Ae 0xbee6b2800c310000 [] []);haveI l:∀{n:Int} {k:Nat},BF n 3=some k->BF n ([AV.obj x.l0,AV.obj x.l1,AV.obj x.l2]:List AV).length=some k:=λh=>h;haveI q0:BF 0 3=some 0:=rfl;haveI q1:BF 1 3=some 1:=rfl;haveI q2:BF 2 3=some 2:=rfl;haveI g:([AV.obj x.l0,AV.obj x.l1,AV.obj x.l2]:List AV)[0]?=some (.obj x.l0):=rfl;haveI A0:([AV.obj x.l0,AV.obj x.l1,AV.obj x.l2]:List AV)[1]?=some (.obj x.l1):=rfl;haveI Y:([AV.obj x.l0,AV.obj x.l1,AV.obj x.l2]:List AV)[2]?=some (.obj x.l2):=rfl;exists t,s.hl,l q0,g,W,s.hl,l q1,A0,s.h0,s.h1;have F:(x.r0.map Bo).length+(x.r1.map Bo).length<=4:=by rw[Ak,Ak];exact Nat.add_le_add N X
 refine A8 (BE F (AN rfl)) λa G=>?_;have k1:KP M0 σ (σ.uL a (x.r0.map Bo++x.r1.map Bo)):=KP.AX (.inr G.2.1);haveI f:=s.Ao λb la h=>k1.A1 b la h (λw=>w);exists v,f.hl,l q2,Y,AY,f.h2;refine A8 (by unfold room;rw[CE];exact BE (Nat.add_le_add_right F _) (AN rfl)) λb C=>?_;haveI E:x.r0.map Bo++x.r1.map Bo++[Cj].map Bo=(x.r0++x.r1++[Cj]).map Bo:=by rw[CX,CX]
 rw[E];have vW:=k1.trans (KP.AX (a:=b) (l:=(x.r0++x.r1++[Cj]).map Bo) (.inr C.2.1));refine sp_i (d.g 88 rfl) ⟨x.r0++x.r1++[Cj],AY,by rw[CE,CE];exact BE (Nat.add_le_add_right (Nat.add_le_add N X) 1) (AN rfl),λr H=>?_,λzx na aa nd al vX J0 M vY U j Z Z=>?_⟩
 ·rcases X9.aP H with w| w| w
  ·exact x.Eu r w
  ·exact x.Ew r w
  ·exact Ma.2 r w
 have c:=vW.trans vX;haveI e:=V.kp c (λZ w=>w) (λZ w=>w);refine vT S x.hQ e (tp.kp c (by rw[V.pv.cls];exact λw=>by cases w) (λw=>w)) (λa L=>(ta a L).kp c (by rw[V.pv.Ei L];exact λw=>by cases w) (λw=>w)) K T A (c.A1 _ _ s.hc (λw=>w)) x.E1 J0 M (λy O=>?_) (λy O=>?_) x.hk x.hb x.hs (H6 _) (H6 _) (Ie _) (Ie _)
 ·rw[T.mem];obtain rfl| ⟨r,H,vZ⟩:=vY y O
  ·exact .inl rfl
  ·refine AJ (tL (lp:=lp) (X9.aP H)) λR B vd=>?_;exact .inr ⟨R,by rw[D];exact B,(Zb vd y).2 vZ⟩
 ·rcases (T.mem y).1 O with rfl| ⟨R,B,m⟩
  ·exact U
  ·rw[D] at B;rcases Ox B with w| w| w| ⟨row,H,w⟩
   ·rcases m with⟨o,_⟩| ⟨o,_⟩<;>(rw[w.1] at o;cases o)
   ·rcases m with⟨o,_⟩| ⟨o,_⟩<;>(rw[w.1] at o;cases o)
   ·rcases w with⟨t,W,_,_,v,ve,w4⟩
    rcases m with⟨_,(q| q)| ⟨q,_⟩⟩| ⟨o,_⟩
    ·rw[q,v];exact U
    ·exact Ad q.1 (by rw[ve];decide)
    ·rw[w4] at q;cases q
    ·rw[W] at o;cases o
   ·refine j row ?_ y ((Zb w y).1 m);rcases H with w| w| w
    ·exact Fu _ (Fu _ w)
    ·exact Fu _ (GN _ w)
    ·exact GN _ w
def e6(s:x.Ls σ)(n:x.Ne p)(nil:il≠p)(V:BJ σ p il as P)(d:∀a∈as,a≠p)(y:σ.A4 p 16=some (.bytes []))(j:σ.A4 p 17=some (.bool false))(r:σ.A4 p 18=some .none)(T:Bp σ p)(t:∀a∈as,Bp σ a)(D:P.AG=DR lp x.rs)(K:P.Ok)(c:Ds P (cutsOf P.AG))(A:Cx P):AP I (CM.drop 6) (BB Q) (x.Lc (some (.obj p)) none) σ:=by
 refine sp_i (S.g 10 rfl) (.inr ⟨il,as,P,r,V,by rw[D];exact ZY ⟨x.n0,x.Eu⟩ ⟨x.n1,x.Ew⟩,BE K.len (AN rfl),λo E L U m Y F=>?_⟩);haveI N:∀a l,σ.A1 a=some l->a≠p->o.A1 a=some l:=λa l h n=>L.A1 _ _ h n;haveI fe:∀a∈as,o.A4 a=σ.A4 a:=λa H=>L.A4 a (by rw[V.Ei H];exact λw=>by cases w) (d a H);haveI g:∀{f:Nat} {v:Option AV},f≠18->σ.A4 p f=v->o.A4 p f=v:=λh e=>(Y _ h).trans e;refine e7 S (lp:=lp) (cl:=E) (s.Et n N) (λZ B=>B (λZ B=>B (L.cls _ _ V.cls) (g (by decide) V.AG) (N _ _ V.A1 nil) V.len (λi a R q1 G=>?_) (g (by decide) V.start) (g (by decide) V.loose) (g (by decide) V.rev) (g (by decide) V.DE) (g (by decide) V.CO)) (g (by decide) y) (g (by decide) j) F m) (λf v h=>?_) (λa H f v h=>by rw[fe a H] at h;exact t a H f v h) D K c A
 ·haveI w:=V.inst i a R q1 G;haveI e:=fe a (Bj q1);exact(λZ B=>B (L.cls _ _ w.cls) (by rw[e];exact w.op) (by rw[e];exact w.out) (by rw[e];exact w.arg) (by rw[e];exact w.B1) (by rw[e];exact w.Ax) (by rw[e];exact w.fold) (by rw[e];exact w.last))
 ·by_cases g:f=18
  ·rw[g,F] at h;cases h;trivial
  ·rw[Y f g] at h;exact T f v h
def e5(s:x.Ls σ)(n:x.Ne p)(m:CV σ p il as (Ex lp x.rs))(t d r:Bool):AP I (CM.drop 6) (BB Q) (x.Lc (some (.obj p)) none) (((σ.uF p 12 (.bool t)).uF p 13 (.bool d)).uF p 11 (.bool r)):=by
 haveI G:∃P:AM,P=⟨DR lp x.rs,(Ex lp x.rs).start,(Ex lp x.rs).loose,r,t,d⟩:=⟨_,rfl⟩;obtain ⟨P,H⟩:=G;have D:P.AG=DR lp x.rs:=by rw[H]
 haveI K:P.Ok:=tP ⟨x.n0,x.Eu⟩ ⟨x.n1,x.Ew⟩ Ma D (by rw[H]) (by rw[H]);haveI T:=tx ⟨x.n0,x.Eu⟩ ⟨x.n1,x.Ew⟩ D;have A:Cx P:=(λZ E=>E (λR B=>by
  obtain ⟨j,F⟩:=List.getElem?_of_mem B;have M:=(D6.1 F).1;haveI:=K.arg (j:Int) (Dh _) (Int.ofNat_lt.2 M);unfold AM.get at this;rw[C4,Int.toNat_natCast,F] at this;exact this) (λR B U=>by rw[D] at B;exact Zc ⟨x.n0,x.Eu⟩ ⟨x.n1,x.Ew⟩ B U))
 have N:∀a∈as,a≠p:=λa L e=>by have:=m.pv.Ei L;rw[e,m.pv.cls] at this;cases this
 have O:KP (MF p) σ (((σ.uF p 12 (.bool t)).uF p 13 (.bool d)).uF p 11 (.bool r)):=((KP.BK (.inl rfl)).trans (KP.BK (.inl rfl))).trans (KP.BK (.inl rfl));have g:∀{f:Nat} {v:Option AV},f≠11->f≠12->f≠13->σ.A4 p f=v->(((σ.uF p 12 (.bool t)).uF p 13 (.bool d)).uF p 11 (.bool r)).A4 p f=v:=λa b c h=>by
  rw[DO,A5 (λw=>a w.2),DO,A5 (λw=>c w.2),DO,A5 (λw=>b w.2)];exact h
 have v:=m.pv;have V:BJ (((σ.uF p 12 (.bool t)).uF p 13 (.bool d)).uF p 11 (.bool r)) p il as P:=by
  rw[H];exact(λZ E=>E v.cls (g (by decide) (by decide) (by decide) v.AG) v.A1 v.len (λi a R q1 C=>(v.inst i a R q1 C).kp O (N a (Bj q1))) (g (by decide) (by decide) (by decide) v.start) (g (by decide) (by decide) (by decide) v.loose) (by simp[DO]) (by simp[DO]) (by simp[DO]))
 exact e6 S (lp:=lp) (s.Ao λb l h=>h) n m.ne V N (g (by decide) (by decide) (by decide) m.Fi) (g (by decide) (by decide) (by decide) m.Fj) (g (by decide) (by decide) (by decide) m.Fn) (Bp.uF (Bp.uF (Bp.uF m.tp trivial) trivial) trivial) (λa L=>Bp.uF (Bp.uF (Bp.uF (m.ta a L) trivial) trivial) trivial) D K T A
def e4(s:x.Ls σ):AP I (CM.drop 4) (BB Q) (x.Lc none none) σ:=by
 exists AN rfl,Mn [3,5] x.bound;refine sp_i (S.g 87 rfl) ⟨[x.l0,x.l1,x.l2],x.rs,s.hl,rfl,rfl,λj l r a b=>?_,λc p C A K f P=>?_⟩
 ·rcases j with _| _| _| j
  ·cases a;cases b;exact⟨s.h0,x.n0,x.Eu⟩
  ·cases a;cases b;exact⟨s.h1,x.n1,x.Ew⟩
  ·cases a;cases b;exact⟨s.h2,Ma.1,Ma.2⟩
  ·exact nO a rfl
 exists AN rfl,Mn [3,5] x.bound,AN rfl,Mn [4,5] x.bound,AN rfl,P.pv.cls;refine A8 (by decide) (A8 rfl ?_);exact e5 S (s.Ao λb l h=>K.A1 b l h (λw=>w)) (s.ne f) P _ _ _
def vf(m:List AV)(Q:PE)(M:AH)(h:Zr m Q M):∃a,m=[a]/\Dz I 31 CM [a] Q M:=by
 apply Cu h;clear h;intro p hh;refine⟨_,rfl,?_⟩;refine BX hh λP vg TP hQ=>?_;have l:AU I Oj:=S.dr 4;have j:AU I Gx:=l.dr 3;haveI T:(P.take 7).length<=7:=List.length_take_le _ _;refine A8 (show (0:Int)<=7 by decide) (A8 (BC (Ae 0x167013b9aca0030c00 [] []) (Ae 0xbee6b2800c338000 [] [])) ?_);exists vg,BE TP (AN rfl);intro a fa;exists AY,ints_map (P.take 7),BE T (AN rfl);intro c0 zy;generalize L:(P.take 7).map (λn:Int=>n.fmod (10^12))=A;haveI U:((P.take 7).map λn:Int=>AV.int (n.fmod (10^12)))=A.map .int:=by rw[<-L,List.map_map];rfl
 refine(U).symm▸?_;have v:A.length<=7:=by rw[<-L,Ak];exact T
 refine sp_i (j.g 84 rfl) λEe rl k2 Z vh=>?_;have A0:=k2.A1 _ _ AY (λw=>w);refine .inl (Exists.intro _ (A8 A0 (A8 (rm (BE v (AN rfl))) ?_)));have wl:word ((A.map AV.int).length:Int):=by rw[Ak];exact BC (Ae 0x2ca0093b9aca0030c41 [_] []) (A3 0x2fb9aca0030ca00a0e000441 [_] [] v)
 refine A8 (Dh _) (A8 wl ?_);exists vh,AN rfl;intro b f;exists (BI (BQ f A0)).trans A0,AY;generalize o:A++([155946,7,7,7,0,322,5]:List Int).drop A.length=K;have t:A.map AV.int++(([155946,7,7,7,0,322,5]:List Int).map AV.int).drop (((A.map AV.int).length:Int)).toNat=K.map .int:=by
  rw[<-o,CX,List.map_drop,Int.toNat_natCast,Ak]
 have H:K.length=7:=by rw[<-o,CE,List.length_drop];simp only[List.length_cons,List.length_nil];exact A3 0x28e0424014040808101020204040808101000000a0e000441 [_] [] v
 refine A8 ?_ λc X=>?_
 ·rw[<-CE,t];exact rm (by rw[H];decide)
 rw[t];generalize F:AH.uL _ c (K.map .int)=R;have g:R.A1 c=some (K.map .int):=by rw[<-F];exact AY
 refine(?_:AP I (CM.drop 2) (BB Q) [some (.obj p),some (.obj c),none,none,none,none,none,none,none,none,none,none,none,none,none,none,none,none,none,none,none,none,none,none,none,none,none,none,none,none,none,none] R);clear F X f A0;exists (show (0:Int)<=4 by decide),BC (Ae 0x164013b9aca0030c00 [] []) (Ae 0xbee6b2800c320000 [] []),g,rm (by rw[H];decide);intro d Y;have V:(K.map AV.int).take (4:Int).toNat=(K.take 4).map .int:=by rw[List.map_take];rfl
 rw[V];haveI vi:(R.uL d ((K.take 4).map .int)).A1 c=some (K.map .int):=(BI (BQ Y g)).trans g;refine sp_i (l.g 86 rfl) ⟨K.take 4,AY,by rw[List.length_take,H];rfl,λN ll l0 l1 l2 r0 r1 k5 KV r h1 h2 Eu Ew n0 n1=>?_⟩;have C:=k5.A1 _ _ vi (λw=>w);haveI h4:BF 4 K.length=some 4:=by rw[H];rfl
 refine(DX (BC (Ae 0x164013b9aca0030c00 [] []) (Ae 0xbee6b2800c320000 [] [])) C (DW h4) (Ja (n:=4) (by rw[H];decide)) ?_:);exists AN rfl;intro b f;haveI kb:KP M0 N (N.uL b [.int 3,.int 6,.int 2,.int 3,.int 3]):=KP.AX (.inr f.2.1);refine sp_i (j.g 85 rfl) ⟨[3,6,2,3,3],AY,AN rfl,λx W=>by simp at W;exact A3 0x1cbfa043009601040f7bda30004d10002698001346000840 [] [_] W,λvj y k6 Z Z Hd=>?_⟩;haveI e:=kb.trans k6;have D:∃k bo w B O:Int,Gw (K.getD 4 0) [3,6,2,3,3]=[k,bo,w,B,O]/\(0<=k/\k<3)/\(0<=B/\B<3)/\(0<=O/\O<3):=⟨_,_,_,_,_,rfl,FO (by decide),FO (by decide),FO (by decide)⟩;obtain ⟨kind,bound,way,E,G,D,hk,hb,hs⟩:=D;haveI it:vj.items (.obj y)=some [.int kind,.int bound,.int way,.int E,.int G]:=Hd.trans (AO (λla=>some (List.map AV.int la)) D);exists it;let x:X9 Q:=⟨p,c,ll,l0,l1,l2,K,r0,r1,kind,bound,way,E,G,hQ,H,n0,Eu,n1,Ew,hk,hb,hs⟩
 exact e4 S (x:=x) (λZ zK=>zK (e.A1 _ _ C (λw=>w)) (e.A1 _ _ KV (λw=>w)) (e.A1 _ _ r (λw=>w)) (e.A1 _ _ h1 (λw=>w)) (e.A1 _ _ h2 (λw=>w)))
end
end
section
open PySem.SeqAt
def bA(e:f.params.args.map (·.arg)=a.map (·.arg)):bindArgs (K9 f [] [] none none d) x=bindArgs (K9 {f with params:={f.params with args:=a}} [] [] none none d) x:=by
 delta bindArgs
 dsimp only[K9];generalize f.params.args.map (·.arg)=l at e;subst e;rfl
noncomputable def aQ (x:Str):Arg:=⟨x,none,⟨0,0,0,0⟩⟩
def bN{s:Shared}{K:Frag}{f:FuncData}{T:Addr}{o:Obj}{n:Nat}{nm:List Str}{C:Array Value}{v:List Value}{r:List (Str×Value)}{k:Option (Array Value)->Sem (List (Str×Value))}(X:K.In s.heap)(h:f.params.posonlyargs=[])(H:f.params.kwonlyargs=[])(L:f.params.vararg=none)(U:f.params.kwarg=none)
  (A0:f.params.args.map (·.arg)=(nm.map aQ).map (·.arg)) (hd:f.defaults= .ref T) (V:K.lookup T=some o) (x:o.data= .seq C n)
  (w:bindArgs (K9 {f with params:={f.params with args:=nm.map aQ}} [] [] none none (.ref T)) ⟨v,[]⟩=seqItems? (.ref T)>>= k) (z:k (some C)=pure r):BindsTo s f ⟨v,[]⟩ r:=
 (Xp h H L U hd).symm▸binds_K X rfl V x ((bA A0).trans w) z
def L7{A:Type}{P:List A->Prop}(h:∀a b,P [a,b])(H:∀a b c,P [a,b,c])(U:∀a b c d,P [a,b,c,d])(C:∀a b c d e,P [a,b,c,d,e])(v:∀a b c d e f,P [a,b,c,d,e,f])(p:∀a b c d e f g,P [a,b,c,d,e,f,g]):∀l:List A,2<=l.length->l.length<=7->P l:=λl i j=>by
 rcases l with _| ⟨a,_| ⟨b,_| ⟨c,_| ⟨d,_| ⟨e,_| ⟨f,_| ⟨g,_| ⟨_,l⟩⟩⟩⟩⟩⟩⟩⟩
 ·exact Ad i (Nat.not_succ_le_zero 1)
 ·exact Ad i (Nat.not_succ_le_self 1)
 ·exact h a b
 ·exact H a b c
 ·exact U a b c d
 ·exact C a b c d e
 ·exact v a b c d e f
 ·exact p a b c d e f g
 ·exact Ad (Nat.le_of_add_le_add_right (b:=7) (a:=l.length+1) (c:=0) j) (Nat.not_succ_le_zero _)
def vo{K:Frag}{f:FuncData}{s:Shared}{T:Addr}{o:Obj}{d D l p y:Value}{n:Nat}(X:K.In s.heap)(h:f.params.posonlyargs=[])(H:f.params.kwonlyargs=[])(L:f.params.vararg=none)(U:f.params.kwarg=none)
  (C:f.params.args.map (·.arg)=HX) (hd:f.defaults= .ref T) (V:K.lookup T=some o) (x:o.data= .seq #[d,D,l,p,y] n) (v:List Value) (M:2<=v.length) (r:v.length<=7):
  BindsTo s f ⟨v,[]⟩ (HX.zip (v++[d,D,l,p,y].drop (v.length-2))):=by
 refine bN (nm:=HX) X h H L U C hd V x rfl ?_;revert v;exact L7 (λZ Z=>rfl) (λZ Z Z=>rfl) (λZ Z Z Z=>rfl) (λZ Z Z Z Z=>rfl) (λZ Z Z Z Z Z=>rfl) (λZ Z Z Z Z Z Z=>rfl)
def vp{K:Frag}{f:FuncData}{s:Shared}{T:Addr}{o:Obj}{D:Value}{n:Nat}(X:K.In s.heap)(h:f.params.posonlyargs=[])(H:f.params.kwonlyargs=[])(L:f.params.vararg=none)(U:f.params.kwarg=none)
  (C:f.params.args.map (·.arg)=K7) (hd:f.defaults= .ref T) (V:K.lookup T=some o) (x:o.data= .seq #[D] n) (v:List Value) (l:v.length=4):
  BindsTo s f ⟨v,[]⟩ (K7.zip (v++[D])):=by
 rcases v with _| ⟨a,_| ⟨b,_| ⟨c,_| ⟨d,_| ⟨e,v⟩⟩⟩⟩⟩
 case cons.cons.cons.cons.nil=>exact bN (nm:=K7) X h H L U C hd V x rfl rfl
 all_goals exact Ad l (by simp)
def Af.app(H:Af h a x)(l:Af h b y):Af h (a++b) (x++y):=by
 induction a generalizing x with
 | nil=>cases H;exact l
 | cons v a C=>cases H with| cons p q=>exact .cons p (C q)
def Af.vq(H:Af h a x)(n:Nat):Af h (a.drop n) (x.drop n):=by
 induction n generalizing a x with
 | zero=>exact H
 | succ n C=>
  cases H with
  | nil=>exact .nil
  | cons p q=>exact C q
section
variable{I:Ag}{B:Av}{K:Frag}
noncomputable def oB {A:Type}(o:Option A)(k:A->Bool):Bool:=match o with| some x=>k x| none=>false
def Fs{A:Type}{o:Option A}{k:A->Bool}(h:oB o k=true):∃x,o=some x/\k x=true:=by
 cases o with
 | none=>cases h
 | some x=>exact⟨x,rfl,h⟩
noncomputable def Mo (K:Frag)(a:Addr):Option Data:=(K.lookup a).map Obj.data
def P5(h:Mo K a=some d):∃O f y,K.lookup a=some ⟨O,f,d,y⟩:=by
 refine AJ (BY.1 h) λo e A=>?_;subst A;cases o;exact⟨_,_,_,e⟩
noncomputable def To (d:Data):Option (Array Value):=if h:d.ctorIdx=2 then Data.seq.elim (motive:=λZ=>Option (Array Value)) d h λv Z=>some v else none
noncomputable def Tp (d:Data):Option (Array Value):=if h:d.ctorIdx=9 then Data.fields.elim (motive:=λZ=>Option (Array Value)) d h λv=>some v else none
noncomputable def Tq (d:Data):Option Value:=if h:d.ctorIdx=6 then Data.cell.elim (motive:=λZ=>Option Value) d h λv=>v else none
noncomputable def Tr (d:Data):Option ClassData:=if h:d.ctorIdx=8 then Data.cls.elim (motive:=λZ=>Option ClassData) d h λv=>some v else none
def vt(h:Tr d=some v):d= .cls v:=by
 by_cases e:d.ctorIdx=8
 ·exact Data.cls.elim (motive:=λd=>Tr d=some v->d= .cls v) d e (λw h=>AO Data.cls (BL h)) h
 ·exact nO h (dif_neg e)
def vu(h:To d=some V):∃E,d= .seq V E:=by
 by_cases e:d.ctorIdx=2
 ·exact Data.seq.elim (motive:=λd=>To d=some V->∃E,d= .seq V E) d e (λv n h=>⟨n,AO (Data.seq · n) (BL h)⟩) h
 ·exact nO h (dif_neg e)
def vw(h:Tp d=some V):d= .fields V:=by
 by_cases e:d.ctorIdx=9
 ·exact Data.fields.elim (motive:=λd=>Tp d=some V->d= .fields V) d e (λv h=>AO Data.fields (BL h)) h
 ·exact nO h (dif_neg e)
def vy(h:Tq d=some v):d= .cell (some v):=by
 by_cases e:d.ctorIdx=6
 ·exact Data.cell.elim (motive:=λd=>Tq d=some v->d= .cell (some v)) d e (λw h=>AO Data.cell h) h
 ·exact nO h (dif_neg e)
noncomputable def P6 (d:Value):Option Addr:=if h:d.ctorIdx=10 then Value.ref.elim (motive:=λZ=>Option Addr) d h λv=>some v else none
noncomputable def Ts (d:Value):Option Int:=if h:d.ctorIdx=4 then Value.int.elim (motive:=λZ=>Option Int) d h λv Z=>some v else none
noncomputable def vStr (d:Value):Option Str:=if h:d.ctorIdx=6 then Value.str.elim (motive:=λZ=>Option Str) d h λv Z=>some v else none
noncomputable def Tt (d:Value):Option Bool:=if h:d.ctorIdx=3 then Value.bool.elim (motive:=λZ=>Option Bool) d h λv=>some v else none
def aR(h:P6 d=some a):d= .ref a:=by
 by_cases e:d.ctorIdx=10
 ·exact Value.ref.elim (motive:=λd=>P6 d=some a->d= .ref a) d e (λw h=>AO Value.ref (BL h)) h
 ·exact nO h (dif_neg e)
def vz(h:Ts d=some a):∃t,d= .int a t:=by
 by_cases e:d.ctorIdx=4
 ·exact Value.int.elim (motive:=λd=>Ts d=some a->∃t,d= .int a t) d e (λw t h=>⟨t,AO (Value.int · t) (BL h)⟩) h
 ·exact nO h (dif_neg e)
def w5(h:vStr d=some a):∃t,d= .str a t:=by
 by_cases e:d.ctorIdx=6
 ·exact Value.str.elim (motive:=λd=>vStr d=some a->∃t,d= .str a t) d e (λw t h=>⟨t,AO (Value.str · t) (BL h)⟩) h
 ·exact nO h (dif_neg e)
def w6(h:Tt d=some a):d= .bool a:=by
 by_cases e:d.ctorIdx=3
 ·exact Value.bool.elim (motive:=λd=>Tt d=some a->d= .bool a) d e (λw h=>AO Value.bool (BL h)) h
 ·exact nO h (dif_neg e)
noncomputable def P7 {A:Type}:List A->Option (A×List A)| a::l=>some (a,l)| _=>none
def Tu{A:Type}{l:List A}{q:A×List A}(h:P7 l=some q):l=q.1::q.2:=by cases l<;>cases h;rfl
noncomputable def Mp (K:Frag)(f:FuncData):Option (Array Value):=(P6 f.defaults).bind λT=>(Mo K T).bind To
def aS(h:Mp K f=some v):∃T o O E y,f.defaults= .ref T/\K.lookup T=some ⟨o,O,.seq v E,y⟩:=by
 refine AJ (CP.1 h) λT H h=>?_;refine AJ (CP.1 h) λd l h=>?_;obtain ⟨E,rfl⟩:=vu h;refine Mx (P5 l) λo O y e=>?_;exact⟨T,o,O,E,y,aR H,e⟩
noncomputable def KX (i:Int)(l:List Value)(k:List Value->Bool):Bool:=oB (P7 l) λq=>(Ts q.1==some i)&&k q.2
def Mq{i:Int}{l:List Value}{k:List Value->Bool}(h:KX i l k=true):∃t m,l= .int i t::m/\k m=true:=by
 refine AJ (Fs h) λq e h=>?_;refine AW (vz (D7.1 (A2 h).1)) λt w=>?_;exact⟨t,q.2,by rw[Tu e,w],(A2 h).2⟩
def Tv (K:Frag)(f:Addr):Bool:=oB (fdOf K f) λF=>oB (Mp K F) λv=>KX 0 v.toList λl=>KX 0 l λl=>KX 0 l λl=>KX 0 l λl=>oB (P7 l) λq=>(Tt q.1==some false)&&q.2.isEmpty
def P8 (K:Frag)(f:Addr):Bool:=oB (fdOf K f) λF=>oB (Mp K F) λv=>KX 10 v.toList λl=>l.isEmpty
def Tw(h:K.lookup f=some ⟨o,O,.func F,y⟩):fdOf K f=some F:=CP.2 ⟨_,h,rfl⟩
set_option tactic.hygienic true in
def w7{F:Addr}{o:Value}{O:Option Addr}{f:FuncData}{y:Array (Option Value)}(Y:K.lookup F=some ⟨o,O,.func f,y⟩)(Q:f.params.posonlyargs=[])(m:f.params.kwonlyargs=[])(L:f.params.vararg=none)(W:f.params.kwarg=none)(C:f.params.args.map (·.arg)=HX)(H:Tv K F=true):
  HS B K f HX (IZ 7 IY):=λs a A V X v h=>by
 unfold Tv at H;haveI H:=(Tw Y)▸H;refine AJ (Fs (o:=Mp K f) H) λd e H=>?_;obtain ⟨T,I,D,r,n,hd,hT⟩:=aS e;refine B9 (Mq H) λt N E H=>?_;refine B9 (Mq H) λg w R H=>?_;refine B9 (Mq H) λtc j U H=>?_;refine B9 (Mq H) λc x e4 H=>?_;refine AJ (Fs H) λq e5 H=>?_;rw[R,U,e4,Tu e5,w6 (D7.1 (A2 H).1),List.isEmpty_iff.1 (A2 H).2] at E;haveI l:d= #[.int 0 t,.int 0 g,.int 0 tc,.int 0 c,.bool false]:=AO List.toArray E;unfold IZ at h;split at h<;>first| exact nO h rfl| skip
 rename_i M;cases h;haveI M:a.length<=7/\7<=a.length+5:=M;haveI p:=v.length;haveI S:a.length+IY.length-7=V.length-2:=by rw[p];refine(?_:a.length+5-7=_);clear p;exact Ae 0x5244000527020a000441 [_] []
 refine⟨V++[.int 0 t,.int 0 g,.int 0 tc,.int 0 c,.bool false].drop (V.length-2),?_,?_,?_⟩
 ·rw[S];exact v.app (Af.vq (.cons (.int 0 t) (.cons (.int 0 g) (.cons (.int 0 tc) (.cons (.int 0 c) (.cons (.bool false) .nil))))) _)
 ·rw[CE,List.length_drop];refine(?_:7=a.length+(5-(a.length+5-7)));clear p S;exact A3 0xa42527020a0004a0004e07210500027020e000441 [_] [] M
 ·subst l;haveI M:=(p).symm▸M;exact vo X Q m L W C hd hT rfl V (by clear S p;exact A3 0x8004407210500027020e000441 [_] [] M) (by clear S p;exact A3 0x8380017210500027020e000441 [_] [] M)
noncomputable def KZ (a:List AV):Option (List AV):=if a.length=4 then some (a++[.int 10]) else none
set_option tactic.hygienic true in
def w8{F:Addr}{o:Value}{O:Option Addr}{f:FuncData}{y:Array (Option Value)}(W:K.lookup F=some ⟨o,O,.func f,y⟩)(Q:f.params.posonlyargs=[])(m:f.params.kwonlyargs=[])(L:f.params.vararg=none)(U:f.params.kwarg=none)(C:f.params.args.map (·.arg)=K7)(H:P8 K F=true):
  HS B K f K7 KZ:=λs a A V X v h=>by
 unfold P8 at H;haveI H:=(Tw W)▸H;refine AJ (Fs (o:=Mp K f) H) λc e H=>?_;obtain ⟨T,I,d,p,S,hd,hT⟩:=aS e;refine B9 (Mq H) λt N E H=>?_;haveI e6:=List.isEmpty_iff.1 H;subst e6;haveI l:c= #[.int 10 t]:=AO List.toArray E;unfold KZ at h;split at h<;>first| exact nO h rfl| skip
 rename_i M;cases h;refine⟨V++[.int 10 t],v.app (.cons (.int 10 t) .nil),by rw[CE,M];rfl,?_⟩;subst l;exact vp X Q m L U C hd hT rfl V (by rw[v.length,M])
def w9(K:Frag)(f:FuncData)(n:List Str)(N:Nat)(l:Prop):Prop:=
 (codeIn K f.code f.qualname=true)->(f.globals=mainGlobals)->(f.builtins=builtinsNs)->(∀x∈f.scope.names,x.2≠.cell)->(∀x∈n.take N,f.scope.names.lookup x=some .local)->(f.scope.isCoroutine=false)->(f.scope.isGenerator=false)->(f.scope.kind= .function)->(n.Nodup)->(N<=n.length)->(f.params.posonlyargs=[])->(f.params.kwonlyargs=[])->(f.params.vararg=none)->(f.params.kwarg=none)->(f.params.args.map (·.arg)=n.take N)->l
def DH(K:Frag)(f:FuncData)(n:List Str)(N:Nat):Prop:=Ch (w9 K f n N)
section
variable(zh:DH K fd nm np)
def DH.a1:=zh _ λz Z Z Z Z Z Z Z Z Z Z Z Z Z Z=>z
def DH.a2:=zh _ λZ z Z Z Z Z Z Z Z Z Z Z Z Z Z=>z
def DH.a3:=zh _ λZ Z z Z Z Z Z Z Z Z Z Z Z Z Z=>z
def DH.a4:=zh _ λZ Z Z z Z Z Z Z Z Z Z Z Z Z Z=>z
def DH.a5:=zh _ λZ Z Z Z z Z Z Z Z Z Z Z Z Z Z=>z
def DH.a6:=zh _ λZ Z Z Z Z z Z Z Z Z Z Z Z Z Z=>z
def DH.a7:=zh _ λZ Z Z Z Z Z z Z Z Z Z Z Z Z Z=>z
def DH.a8:=zh _ λZ Z Z Z Z Z Z z Z Z Z Z Z Z Z=>z
def DH.a9:=zh _ λZ Z Z Z Z Z Z Z z Z Z Z Z Z Z=>z
def DH.Tx:=zh _ λZ Z Z Z Z Z Z Z Z z Z Z Z Z Z=>z
def DH.Tz:=zh _ λZ Z Z Z Z Z Z Z Z Z z Z Z Z Z=>z
def DH.U4:=zh _ λZ Z Z Z Z Z Z Z Z Z Z z Z Z Z=>z
def DH.U5:=zh _ λZ Z Z Z Z Z Z Z Z Z Z Z z Z Z=>z
def DH.U6:=zh _ λZ Z Z Z Z Z Z Z Z Z Z Z Z z Z=>z
def DH.U7:=zh _ λZ Z Z Z Z Z Z Z Z Z Z Z Z Z z=>z
end
def aU{f:Addr}{e:Value}{I:Option Addr}{F:FuncData}{E:Array (Option Value)}{N:List Str}{C:Nat}(U:K.lookup f=some ⟨e,I,.func F,E⟩)(h:JJ K f N C=true):DH K F N C:=by
 unfold JJ at h;haveI h:=(U)▸h;have h:(_&&_)=true:=h;haveI j:=(A2 h).2;haveI M:=(A2 h).1;haveI d:=(A2 M).2;haveI T:=(A2 M).1;haveI c:=(A2 T).2;haveI y:=(A2 T).1;haveI W:=(A2 y).2;haveI g:=(A2 y).1;haveI Q:=(A2 g).2;haveI n:=(A2 g).1;haveI A0:=(A2 n).2;haveI r:=(A2 n).1;haveI B:=(A2 r).2;haveI L:=(A2 r).1;haveI p:=(A2 L).2;haveI O:=(A2 L).1;haveI t:=(A2 O).2;haveI G:=(A2 O).1;haveI o:=(A2 G).2;haveI P:=(A2 G).1;haveI v:=(A2 P).2;haveI A:=(A2 P).1;haveI m:=(A2 A).2;haveI w:=(A2 A).1;haveI D:=(A2 w).2;haveI k3:=(A2 w).1;haveI l:=(A2 k3).2;haveI a:=(A2 k3).1;exact λZ R=>R a (CQ l) (CQ D) (λx H=>bne_iff_ne.1 (EE.mp m x H)) (λx H=>D7.1 (EE.mp v x H)) (DC o) (DC t) (CQ p) (Cb B) (Cb A0) (List.isEmpty_iff.1 Q) (List.isEmpty_iff.1 W) (Option.isNone_iff_eq_none.1 c) (Option.isNone_iff_eq_none.1 d) (CQ j)
def aV{G:Bw B}{k:Nat}{n:List Str}{N o:Nat}{m:List MS}{fill:List AV->Option (List AV)}{S:Scope×List Stmt}(f:Addr)(c:BP k= .ref f)(X:∀s,C5 I B K (HY s n k) G BP IA)(H:I9 K f=LY k n m S)(R:(tB k n m S).1=true)(l:JJ K f n N=true)
  (w:∀O d F y,K.lookup f=some ⟨O,d,.func F,y⟩->DH K F n N->HS B K F (n.take N) fill)
  (C:∀a Q D,I.spec k a Q D->∃A,fill a=some A/\Dz I o m A Q D):DB I B k (BP k):=by
 rw[c];refine PI (RC H) λO d F y h e E=>?_;haveI P:=aU h l;exact g7 (names:=n) (ps:=n.take N) (n:=o) (ms:=m) (fill:=fill) (X S.1).F h E P.a1 P.a2 P.a3 P.a4 P.a5 (by rw[List.length_take,Nat.min_eq_left P.Tx]) P.a9 (w _ _ _ _ h P) (by rw[e];exact Qd (X S.1) m S.2 R) C P.a6 P.a7 P.a8
def aW (G:Ctx)(m:Cd)(s:Stmt):RS:=((Di G m (kids (ek s 0)).tail).1&&(decide ((Di G m (kids (ek s 0)).tail).2.length<20)&&!(Di G m (kids (ek s 0)).tail).2.isEmpty),
 .Expr (cA "__init__" (ek s 0) (.Call (tN "super" (kd (kd (kd (ek s 0) 0) 0) 0)) [] [] (pE (kd (kd (ek s 0) 0) 0))) (Di G m (kids (ek s 0)).tail).2) s.pos)
abbrev P9 (k:Nat)(n:List Str)(m:Cd)(M:List MS)(S:Scope×List Stmt):RL:=
 ((aW (HY S.1 n k) m (S.2.headD default)).1&&(tB k n M (S.1,S.2.tail)).1,(aW (HY S.1 n k) m (S.2.headD default)).2::(tB k n M (S.1,S.2.tail)).2)
def U8 (K:Frag)(n:List Str)(D F:Addr)(M:Str)(m:Addr):Bool:=oB (fdOf K m) λf=>
 ((oB (P7 f.closure) λc=>((c.1.1==("__class__":Str))&&c.2.isEmpty)&&oB (Mo K c.1.2) λd=>Tq d==some (.ref D))&&
 ((oB (P6 f.code) λa=>oB (Mo K a) λd=>oB (Tp d) λV=>oB (V[2]?:Option Value) λv=>vStr v==some M)&&
 ((oB (Mo K D) λd=>(Tr d).isSome)&&(mroIn K D (.ref D)==some true))&&(((f.scope.names.lookup ("super":Str)==some .globalImplicit)&&(f.scope.names.lookup ("__class__":Str)==some .free))&&
 ((oB (f.params.posonlyargs++f.params.args).head? λA=>(n[0]?==some A.arg)&&(f.scope.names.lookup A.arg==some .local))&&
 (((nsIn K cStatics "thirdparty.any"==some none)&&(ks_superIn K D D ("__init__":Str)==some (some (.ref F))))&&((typeIn K (.ref F)==some (.type "function"))&&fnIn K F))))))
def wA{A:Type}{l:List A}(h:l.isEmpty=false):∃e E,l=e::E:=by
 cases l with
 | nil=>cases h
 | cons e E=>exact⟨e,E,rfl⟩
def wB{G:Bw B}{k k2:Nat}{n:List Str}{N v:Nat}{m:List MS}{M:Cd}{S:Scope×List Stmt}{Y:List AV->Option (List AV)}{j A:Addr}{r:Str}(F:Addr)(U9:BP k= .ref F)(Xa:∀s,C5 I B K (HY s n k) G BP IA)
  (h0:I9 K F=some (S.1,.stmts (P9 k n M m S).2)) (L:(P9 k n M m S).1=true) (h:U8 K n j A r F=true) (h2:JJ K F n N=true) (R1:BP k2= .ref A) (Gg:k2<k) (Qx:G.mg "super"=none) (Qy:G.mb "super"=some (.type "super")) (wC:B.prog.main.file=r) (R0:(B.prog.main.scope.names.lookup ("super":Str)).isSome=false)
  (Qt:∀A0 od f I3,K.lookup F=some ⟨A0,od,.func f,I3⟩->DH K f n N->HS B K f (n.take N) Y) (V:DB I B k2 (BP k2))
  (HT:∀a Q D,I.spec k a Q D->∃x g,Y a=some (.obj x::g)/\D.cls x=some j/\Dz I v (.expr (.sup k2 M)::m) (.obj x::g) Q D):DB I B k (BP k):=by
 rw[U9];haveI V:=(R1)▸V;refine PI (RC h0) λA0 od f I3 H W e2=>?_;haveI P:=aU H h2;unfold U8 at h;have h:=(Tw H)▸h;refine Ac (λt h=>?_) (A2 (h:(_&&_)=true));refine Ac (λc h=>?_) (A2 h);refine Ac (λc O=>?_) (A2 c);refine Ac (λe h=>?_) (A2 h);refine Ac (λd h=>?_) (A2 h);refine Ac (λR T=>?_) (A2 h);refine AJ (Fs t) λBr hc t=>?_;obtain ⟨⟨cn,U⟩,cr⟩:=Br;refine Ac (λt C=>?_) (A2 t);refine AJ (Fs C) λda hd C=>?_;refine Mx (P5 hd) λXR XU E3 y=>?_;haveI y:=(vy (D7.1 C))▸y;haveI LZ:f.closure=[(("__class__":Str),U)]:=by
  refine(Tu hc).symm▸?_;exact congr (AO (λx=>List.cons (x,U)) (D7.1 (A2 t).1)) (List.isEmpty_iff.1 (A2 t).2)
 refine AJ (Fs c) λQq Qw c=>?_;refine AJ (Fs c) λd2 hd2 c=>?_;refine Mx (P5 hd2) λXS XT XW o=>?_;refine AJ (Fs c) λvs hf c=>?_;haveI o:=(vw hf)▸o;refine AJ (Fs c) λva p c=>?_;refine AW (w5 (D7.1 c)) λtf e3=>?_;haveI p:=(e3)▸p;refine AJ (Fs d) λar Qz d=>?_;refine AJ (Fs (A2 O).1) λdD wD c9=>?_;refine AW (Option.isSome_iff_exists.1 c9) λcdD hD=>?_;refine Mx (P5 wD) λXX XY Xb E=>?_;haveI E:=(vt hD)▸E;haveI hlen:(n.take N).length=N:=List.length_take.trans (Nat.min_eq_left P.Tx);haveI X:=Xa S.1;haveI s1:EJ I B f.scope n k M (Di (HY S.1 n k) M (kids (ek (S.2.headD default) 0)).tail).2:=by rw[W];exact QT X M _ (A2 (A2 L).1).1
 haveI l:=A2 (A2 (A2 L).1).2;haveI s2:DK I B f.scope n k m (tB k n m (S.1,S.2.tail)).2:=by rw[W];exact Qd X m S.2.tail (A2 L).2
 exact(wA (DC l.2)).elim λea w=>w.elim λes w=>jw (names:=n) (ps:=n.take N) (n:=v) (ms:=m) (fill:=Y) X.F G H (e2.trans (AO (λla=>FuncBody.stmts (.Expr (cA "__init__" (ek (S.2.headD default) 0) _ la) _::(tB k n m (S.1,S.2.tail)).2)) w)) P.a1 P.a2 P.a3 P.a4 P.a5 (by rw[hlen]) P.a9 (Qt _ _ _ _ H P) (by rw[<-w];exact s1) s2 HT P.a6 P.a7 P.a8 LZ (aR Qw) o p (by rw[wC];exact D7.2 rfl) y E (D7.1 (A2 O).2) Qx Qy (D7.1 (A2 e).1) (D7.1 (A2 e).2) Qz (D7.1 (A2 d).1) (D7.1 (A2 d).2) R0 (D7.1 (A2 R).1) (D7.1 (A2 R).2) (D7.1 (A2 T).1) (A2 T).2 (by rw[<-w];exact Cb l.1) (I8 _) V Gg
def UA (K:Frag)(c f:Addr):Bool:=makesIn K c&&(findIn K (.ref c) "__init__"==some (some (.ref f)))&&(typeIn K (.ref f)==some (.type "function"))&&HH.contains c
def wF{k C c f:Nat}(F:Facts B K)(h:UA K c f=true)(T:BP k= .ref c)(d:BP C= .ref f)(Y:C<k)(V:DB I B C (BP C))(R:I.spec C=S)(l:I.spec k=CN S c):DB I B k (BP k):=by
 unfold UA at h;simp only[Bool.and_eq_true,beq_iff_eq] at h;obtain ⟨⟨⟨a1,a2⟩,A⟩,g⟩:=h;rw[T];rw[d] at V;refine g8 F a1 a2 A (by simpa using g) Y V λe Q D H a L=>?_;haveI H:=(l)▸H;refine(R).symm▸?_;exact H a L
set_option tactic.hygienic true in
def wG(N:List (Str×NameKind))(L:Nat)(acc:List (Str×Addr))(h:N.filter (λx=>x.2==.cell)=[]):cellsFrom L N acc=acc:=by
 induction N generalizing L acc with
 | nil=>rfl
 | cons p N C=>
  rcases p with⟨n,k⟩
  rw[List.filter_cons] at h;split at h
  ·cases h
  ·rename_i g;unfold cellsFrom;rw[A5 g];exact C L acc h
set_option tactic.hygienic true in
def wH(N:List (Str×NameKind))(L:Nat)(z:Str)(h:(N.filter (λx=>x.2==.cell)).map (·.1)=[z]):cellsFrom L N []=[(z,L)]:=by
 induction N generalizing L with
 | nil=>cases h
 | cons p N C=>
  rcases p with⟨n,k⟩
  rw[List.filter_cons] at h;unfold cellsFrom;split at h
  ·rename_i g;haveI g:(k==NameKind.cell)=true:=g;rw[A6 g];simp only[List.map_cons,List.cons.injEq] at h;rw[wG N _ _ (List.map_eq_nil_iff.1 h.2),h.1]
  ·rename_i g;haveI g:¬(k==NameKind.cell)=true:=g;rw[A5 g];exact C L h
noncomputable def UB (K:Frag)(f:Addr)(z:Str):Bool:=match K.lookup f with
 | some ⟨_,_,.func fd,_⟩=>codeIn K fd.code fd.qualname&&fd.globals==mainGlobals&&fd.builtins==builtinsNs&&((fd.scope.names.filter (λx=>x.2==.cell)).map (·.1)==[z])&&(fd.scope.names.lookup z==some .cell)&&(fd.scope.names.lookup ("script":Str)==some .local)&&
  !fd.scope.isCoroutine&&!fd.scope.isGenerator&&fd.scope.kind==.function&&fd.closure.isEmpty&&fd.defaults==.none&&
  fd.params.posonlyargs.isEmpty&&fd.params.kwonlyargs.isEmpty&&fd.params.vararg.isNone&&fd.params.kwarg.isNone&&(fd.params.args.map (·.arg)==[("script":Str)])
 | _=>false
def wI(F:Addr)(U9:BP 91= .ref F)(X:∀s,C5 I B K (HY s JI 91) G BP IA)(h0:I9 K F=LY 91 JI CM S)(h1:(tB 91 JI CM S).1=true)(h:UB K F z=true)(HT:∀e Q Y,I.spec 91 e Q Y->∃a,e=[a]/\Dz I 31 CM [a] Q Y):DB I B 91 (BP 91):=by
 rw[U9];refine PI (RC h0) λoc od fd I3 H e1 e2=>?_;unfold UB at h;haveI h:=(H)▸h;have h:(_&&_)=true:=h;haveI d:=(A2 h).2;haveI U:=(A2 h).1;haveI f:=(A2 U).2;haveI M:=(A2 U).1;haveI y:=(A2 M).2;haveI T:=(A2 M).1;haveI c:=(A2 T).2;haveI m:=(A2 T).1;haveI W:=(A2 m).2;haveI l:=(A2 m).1;haveI P:=(A2 l).2;haveI o:=(A2 l).1;haveI C:=(A2 o).2;haveI r:=(A2 o).1;haveI E:=(A2 r).2;haveI V:=(A2 r).1;haveI j:=(A2 V).2;haveI O:=(A2 V).1;haveI t:=(A2 O).2;haveI N:=(A2 O).1;haveI n:=(A2 N).2;haveI R:=(A2 N).1;haveI v:=(A2 R).2;haveI A0:=(A2 R).1;haveI A:=(A2 A0).2;haveI w:=(A2 A0).1;haveI D:=(A2 w).2;haveI k3:=(A2 w).1;haveI g:=(A2 k3).2;haveI p:=(A2 k3).1;haveI g:=CQ g;haveI D:=CQ D;haveI A:=CQ A;haveI v:=CQ v;haveI n:=CQ n;haveI t:=DC t;haveI j:=DC j;haveI E:=CQ E;haveI C:=List.isEmpty_iff.1 C;haveI P:=CQ P;haveI W:=List.isEmpty_iff.1 W;haveI c:=List.isEmpty_iff.1 c;haveI y:=Option.isNone_iff_eq_none.1 y;haveI f:=Option.isNone_iff_eq_none.1 f;haveI d:=CQ d;refine kK (names:=JI) (p:="script") (z:=z) (n:=31) (ms:=CM) (X S.1).F H e2 p g D C (λL=>wH _ L z A) (λx=>⟨λha=>?_,λea=>by rw[ea];exact v⟩) n rfl (λva=>?_) (by rw[e1];exact Qd (X S.1) CM S.2 h1) HT t j E
 ·haveI hm:=mem_of_lookup ha;haveI:x∈(fd.scope.names.filter (λx=>x.2==.cell)).map (·.1):=DT.2 ⟨(x,.cell),List.mem_filter.2 ⟨hm,by rfl⟩,rfl⟩;haveI this:=(A)▸this;exact Az.1 this
 ·exact Xq (vals:=[va]) W c y f d P (by simp) rfl
end
noncomputable def wJ:List (List AV->PE->AH->Prop):=[RH,RI,RJ,RK,Lm,CN Lm 132,RW,RX,RZ,Ln,JO,O8,RN,RO,RP,MK,CN MK 189,RQ,ML,CN ML 217,KD,CN KD 266,Rg,Rh,Ri,KG,CN KG 301,Rj,Rk,RR,Ro,Rl,Rr,Rv,S2,Rp,S8,SF,SG,SI,Ry,Rz,Rq,M7,CN M7 479,OD,SK,SR,SM,OU,CN OU 540,SS,M8,CN M8 596,SU,SV,SW,SY,OV,CN OV 624,Sa,Sf,T6,KN,KN,Sg,Sh,Si,Sj,Sk,Sl,Sm,Sn,So,Sp,Su,T1,Of,CN Of 773,Oh,CN Oh 801,T7,T8,TC,TG,TH,TQ,TU,TR,TK,TL,Zr]
def B0:Ag:=⟨λk=>wJ.getD k λZ Z Z=>False,Am⟩
def C8:AU B0 Mg:=λZ B=>B rfl ⟨rfl,rfl,rfl,rfl,rfl,rfl,rfl,rfl,rfl,rfl,rfl,rfl,rfl,rfl,rfl,rfl,rfl,rfl,rfl,rfl,rfl,rfl,rfl,rfl,rfl,rfl,rfl,rfl,rfl,rfl,rfl,rfl,rfl,rfl,rfl,rfl,rfl,rfl,rfl,rfl,rfl,rfl,rfl,rfl,rfl,rfl,rfl,rfl,rfl,rfl,rfl,rfl,rfl,rfl,rfl,rfl,rfl,rfl,rfl,rfl,rfl,rfl,rfl,rfl,rfl,rfl,rfl,rfl,rfl,rfl,rfl,rfl,rfl,rfl,rfl,rfl,rfl,rfl,rfl,rfl,rfl,rfl,rfl,rfl,rfl,rfl,trivial⟩
def Hq:AU B0 JN:=C8.dr 77
def UC:AU B0 RY:=C8.dr 74
def aX:AU B0 Rb:=C8.dr 72
def wK:AU B0 Rc:=C8.dr 70
def Ii:AU B0 IH:=C8.dr 62
def UD:AU B0 Lp:=C8.dr 59
def wL:AU B0 Rt:=C8.dr 58
def wM:AU B0 Rx:=C8.dr 57
def aZ:AU B0 OC:=C8.dr 55
def wN:AU B0 S3:=C8.dr 54
def ab:AU B0 II:=C8.dr 52
def aaa:AU B0 YE:=C8.dr 51
def ae:AU B0 Ly:=C8.dr 50
def wO:AU B0 OI:=C8.dr 48
def wQ:AU B0 OJ:=C8.dr 47
def wR:AU B0 OO:=C8.dr 45
def wU:AU B0 SN:=C8.dr 44
def wV:AU B0 M6:=C8.dr 43
def aab:AU B0 OT:=C8.dr 41
def UE:AU B0 Sb:=C8.dr 36
def af:AU B0 Gu:=C8.dr 23
def ag:AU B0 Jb:=C8.dr 20
def wW:AU B0 Sq:=C8.dr 19
def wX:AU B0 Sw:=C8.dr 18
def wY:AU B0 T2:=C8.dr 17
def PA:AU B0 T9:=C8.dr 14
def UG:AU B0 Gx:=C8.dr 7
def wZ:AU B0 KR:=C8.dr 5
def wb:AU B0 Oj:=C8.dr 4
def wc:AU B0 Om:=C8.dr 3
def aac:AU B0 ZQ:=C8.dr 2
def we(B:Av)(K:Frag)(G:Bw B)(m:Str)(l:Prop):Prop:=
 (K.In B.h0)->(B.h0.NoLimit)->(∀x:Str,x≠"__name__"->G.mb x=bootBuiltins x)->(G.mg "super"=none)->(G.mb "super"=some (.type "super"))->(B.prog.main.file=m)->((B.prog.main.scope.names.lookup ("super":Str)).isSome=false)->(La K=true)->(Lb K=true)->(Ld K=true)->(Ny K=true)->l
def El(B:Av)(K:Frag)(G:Bw B)(m:Str):Prop:=Ch (we B K G m)
section
variable{B:Av}{K:Frag}{G:Bw B}{mf:Str}(zh:El B K G mf)
def El.X:=zh _ λz Z Z Z Z Z Z Z Z Z Z=>z
def El.lim:=zh _ λZ z Z Z Z Z Z Z Z Z Z=>z
def El.hb:=zh _ λZ Z z Z Z Z Z Z Z Z Z=>z
def El.sup:=zh _ λZ Z Z z Z Z Z Z Z Z Z=>z
def El.wg:=zh _ λZ Z Z Z z Z Z Z Z Z Z=>z
def El.file:=zh _ λZ Z Z Z Z z Z Z Z Z Z=>z
def El.top:=zh _ λZ Z Z Z Z Z z Z Z Z Z=>z
def El.k1:=zh _ λZ Z Z Z Z Z Z z Z Z Z=>z
def El.k2:=zh _ λZ Z Z Z Z Z Z Z z Z Z=>z
def El.k3:=zh _ λZ Z Z Z Z Z Z Z Z z Z=>z
def El.k4:=zh _ λZ Z Z Z Z Z Z Z Z Z z=>z
end
inductive Rw
 | fn (k:Nat) (nm:List Str) (np:Nat) (ms:List MS) (fa:Addr) (d:Nat)
 | BA (d:Nat)
 | mk (c fa:Addr)
 | sup (k:Nat) (nm:List Str) (np:Nat) (ms:List MS) (Dc f2 fa:Addr) (d:Nat)
 | Jj (d:Nat)
def wh (m:MS):ME:=MS.casesOn (motive_1:=λZ=>ME) m (λe=>e) (λZ Z=>.EG) (λZ Z=>.EG) (λZ Z Z Z=>.EG) (λZ Z Z=>.EG) (λZ Z Z Z=>.EG) (λZ Z Z=>.EG) (λZ Z=>.EG) (λZ Z Z Z=>.EG) (λZ=>.EG) .EG .EG .EG .EG .EG
def UH (l:List MS):Cd:=(QY (wh (l.headD .brk))).2
abbrev Ft:=Nat->Scope×List Stmt
def Rw.b (K:Frag)(m:Str)(S:Ft):Rw->Bool
 | .fn k nm np ms f d=>(tB k nm ms (S d)).1&&(JJ K f nm np&&Le K f)
 | .BA d=>(tB 15 HX Qg (S d)).1&&(JJ K 186 HX 7&&Tv K 186)
 | .mk c f=>UA K c f
 | .sup k nm np ms D f2 f d=>(P9 k nm (UH ms) ms.tail (S d)).1&&((U8 K nm D f2 m f&&JJ K f nm np)&&if k=43 then P8 K f else Le K f)
 | .Jj d=>(tB 91 JI CM (S d)).1&&UB K 881 "octet"
def Rw.x (K:Frag):Rw->Option (Scope×FuncBody)
 | .fn _ _ _ _ f _=>I9 K f
 | .BA _=>I9 K 186
 | .mk _ _=>none
 | .sup _ _ _ _ _ _ f _=>I9 K f
 | .Jj _=>I9 K 881
def Rw.e (S:Ft):Rw->Option (Scope×FuncBody)
 | .fn k nm _ ms _ d=>LY k nm ms (S d)
 | .BA d=>LY 15 HX Qg (S d)
 | .mk _ _=>none
 | .sup k nm _ ms _ _ _ d=>some ((S d).1,.stmts (P9 k nm (UH ms) ms.tail (S d)).2)
 | .Jj d=>LY 91 JI CM (S d)
def F2:List Rw:=[.fn 0 iN 1 JG 66 2,.fn 1 iO 2 Nn 73 3,.fn 2 iP 2 Qe 80 4,.fn 3 iQ 3 WR 87 5,.fn 4 iR 1 WS 101 6,.mk 132 101,.fn 6 iS 3 WT 108 7,.fn 7 iT 3 Qf 115 8,.fn 8 iU 2 Np 122 9,.fn 9 iV 1 WU 129 10,.fn 10 iW 1 WV 143 11,.fn 11 iX 2 WW 150 12,.fn 12 iY 2 WX 157 13,.fn 13 iZ 2 WY 164 14,.fn 14 ib 1 WZ 171 15,.BA 16,.mk 189 186,.fn 17 ie 2 Qh 200 17,.fn 18 ig 1 Wa 214 18,.mk 217 214,.fn 20 ij 5 Wb 235 19,.mk 266 235,.fn 22 ik 1 Wc 249 21,.fn 23 ip 1 Wd 256 22,.fn 24 iq 2 Nq 263 23,.fn 25 ir 1 We 284 24,.mk 301 284,.fn 27 iu 2 Wf 291 25,.fn 28 iw 1 Wg 298 26,.fn 29 ix 1 Wh 312 27,.fn 30 iy 1 Wi 319 28,.fn 31 iz 2 Wj 326 29,.fn 32 j0 2 Wk 333 30,.fn 33 j1 1 Wl 340 31,.fn 34 j2 3 Wm 354 32,.fn 35 j3 2 Wo 361 33,.fn 36 j4 4 LR 368 34,.fn 37 j5 3 Wq 375 35,.fn 38 j6 3 LS 382 36,.fn 39 j7 3 JH 389 37,.fn 40 j8 2 Wr 396 38,.fn 41 j9 2 Ws 403 39,.fn 42 jA 3 Qi 410 40,.sup 43 K7 5 Nr 479 354 434 41,.mk 479 434,.fn 45 jB 4 Wt 441 42,.fn 46 jC 4 LU 448 43,.fn 47 jD 4 LV 455 44,.fn 48 jE 3 Nt 462 45,.fn 49 jF 3 Wu 509 50,.mk 540 509,.fn 51 jG 4 Wv 537 54,.fn 52 jH 2 Ww 558 55,.mk 596 558,.fn 54 jI 2 Wx 565 56,.fn 55 jJ 2 Wy 572 57,.fn 56 jK 3 Wz 579 58,.fn 57 jL 1 X0 593 60,.fn 58 jM 2 X1 614 61,.mk 624 614,.fn 60 jN 3 X3 621 62,.fn 61 jO 4 Qj 635 63,.fn 62 jP 7 Nu 649 64,.fn 63 jQ 1 X4 656 65,.fn 64 jR 1 X5 663 66,.fn 65 jS 2 X6 670 67,.fn 66 jT 1 X7 749 76,.fn 67 jU 1 X8 756 77,.fn 68 jV 2 XA 763 78,.fn 69 jW 4 Qk 770 79,.fn 70 jX 4 XB 798 81,.fn 71 jY 2 XC 691 70,.fn 72 jZ 2 XD 698 71,.fn 73 jb 2 XE 705 72,.fn 74 jc 5 Nv 712 73,.fn 75 jd 4 Ql 719 74,.fn 76 je 1 LW 684 69,.sup 77 jf 8 Qm 773 649 742 75,.mk 773 742,.sup 79 jg 6 Qn 801 649 791 80,.mk 801 791,.fn 81 jh 7 XF 810 82,.fn 82 ji 5 XG 817 83,.fn 83 jj 0 XH 824 84,.fn 84 jk 0 XI 836 85,.fn 85 jl 2 XJ 843 86,.fn 86 jm 1 K8 850 87,.fn 87 jn 2 FD 857 88,.fn 88 jo 1 FZ 862 89,.fn 89 jq 5 Qo 869 90,.fn 90 jr 5 XK 876 91,.Jj 92]
def wi(K:Frag)(m:Str)(S:Ft)(l:Prop):Prop:=
 (∀(i:Nat) (r:Rw),F2[i]?=some r->r.b K m S=true)->(∀(i:Nat) (r:Rw),F2[i]?=some r->r.x K=r.e S)->l
def Kc(K:Frag)(m:Str)(S:Ft):Prop:=Ch (wi K m S)
section
variable{K:Frag}{mf:Str}{S:Ft}(zh:Kc K mf S)
def Kc.b:=zh _ λz Z=>z
def Kc.e:=zh _ λZ z=>z
end
def wj{K:Frag}{m:Str}{S:Ft}(H:(F2.all λr=>r.b K m S)=true)(n:F2.map (Rw.x K)=F2.map (Rw.e S)):Kc K m S:=
 (λZ B=>B (λi r h=>EE.1 H r (Bj h)) (λi r h=>by
  haveI:=AO (λl=>l[i]?) n;rw[Bb,Bb,h] at this;exact BL this))
def UI{K:Frag}{f:Addr}{o:Value}{O:Option Addr}{F:FuncData}{y:Array (Option Value)}(H:K.lookup f=some ⟨o,O,.func F,y⟩)(h:Le K f=true):F.defaults= .none:=by
 unfold Le at h;haveI h:=(H)▸h;exact D7.1 h
def ah{W:List AV->Prop}(y:aO k a Q S)(w:a.length=n/\W a)(H:∀s r,k s r Q S->S.cls s=some c):∃x m,JK n a=some (.obj x::m)/\S.cls x=some c/\W (.obj x::m):=
 Bh (P:=λa=>(a.length=n/\W a)->∃x m,JK n a=some (.obj x::m)/\S.cls x=some c/\W (.obj x::m)) y (λs r h w=>⟨s,r,A6 w.1,H s r h,w.2⟩) w
def wk{W:List AV->Prop}(y:aO k a Q S)(w:a.length=4/\W (a++[.int 10]))(H:∀s r,k s r Q S->S.cls s=some c):∃x m,KZ a=some (.obj x::m)/\S.cls x=some c/\W (.obj x::m):=
 Bh (P:=λa=>(a.length=4/\W (a++[.int 10]))->∃x m,KZ a=some (.obj x::m)/\S.cls x=some c/\W (.obj x::m)) y (λs r h w=>⟨s,r++[AV.int 10],(A6 w.1:KZ (.obj s::r)=some ((.obj s::r)++[.int 10])),H s r h,w.2⟩) w
section
variable{B:Av}{K:Frag}{G:Bw B}{mf:Str}{S:Ft}(E:El B K G mf)(H:Kc K mf S)
variable(B) in
abbrev Val(k:Nat):Prop:=DB B0 B k (BP k)
variable(B) in
abbrev Ih(k:Nat):Prop:=∀j,j<k->Val B j
include E in
theorem El.ctx(n:List Str)(k:Nat)(nd:n.Nodup)(C:Ih B k):∀s,C5 B0 B K (HY s n k) G BP IA:=λs=>kQ E.X E.lim G E.hb rfl E.k1 E.k2 E.k3 E.k4 s n k nd C
theorem UJ(P:DH K f N n)(h:f.defaults= .none):HS B K f (N.take n) (JK n):=by
 haveI:=kU (B:=B) (K:=K) P.Tz P.U4 P.U5 P.U6 P.U7 h (P.a9.sublist (List.take_sublist _ _));rw[List.length_take,Nat.min_eq_left P.Tx] at this;exact this
include E H
theorem Au{i k:Nat}{n:List Str}{N o:Nat}{m:List MS}{f:Addr}{d:Nat}(t:F2[i]?=some (.fn k n N m f d))(c:BP k= .ref f)(nd:n.Nodup)(x:∀a Q S,B0.spec k a Q S->a.length=N/\Dz B0 o m a Q S)(C:Ih B k):Val B k:=
 haveI h:=H.b i _ t
 aV f c (E.ctx n k nd C) (H.e i _ t) (A2 h).1 (A2 (A2 h).2).1 (λZ Z Z Z U P=>UJ P (UI U (A2 (A2 h).2).2)) λa Q S w=>⟨a,A6 (x a Q S w).1,(x a Q S w).2⟩
theorem GJ{i k K c f:Nat}{S:List AV->PE->AH->Prop}(t:F2[i]?=some (.mk c f))(R:BP k= .ref c)(d:BP K= .ref f)(h:K<k)(Q:B0.spec K=S)(l:B0.spec k=CN S c)(C:Ih B k):Val B k:=
 wF (Xm E.X E.lim E.k1 E.k2) (H.b i _ t) R d h (C K h) Q l
theorem wm{i d:Nat}(t:F2[i]?=some (.BA d))(C:Ih B 15):Val B 15:=
 haveI h:=H.b i _ t
 aV (fill:=IZ 7 IY) 186 rfl (E.ctx HX 15 (by decide) C) (H.e i _ t) (A2 h).1 (A2 (A2 h).2).1 (λZ Z Z Z U P=>w7 U P.Tz P.U4 P.U5 P.U6 P.U7 (A2 (A2 h).2).2) (rZ (I:=B0))
theorem wo{i d:Nat}(t:F2[i]?=some (.Jj d))(C:Ih B 91):Val B 91:=
 haveI h:=H.b i _ t
 wI 881 rfl (E.ctx JI 91 (by decide) C) (H.e i _ t) (A2 h).1 (A2 h).2 (vf C8)
theorem UK{i k k2:Nat}{n:List Str}{N nl:Nat}{m:List MS}{D w f:Addr}{d:Nat}{fill:List AV->Option (List AV)}(t:F2[i]?=some (.sup k n N m D w f d))(c:BP k= .ref f)(nd:n.Nodup)(L:BP k2= .ref w)(j:k2<k)
  (A:(if k=43 then P8 K f else Le K f)=true->∀o O F e,K.lookup f=some ⟨o,O,.func F,e⟩->DH K F n N->HS B K F (n.take N) fill)
  (y:∀a Q S,B0.spec k a Q S->∃x M,fill a=some (.obj x::M)/\S.cls x=some D/\Dz B0 nl (.expr (.sup k2 (UH m))::m.tail) (.obj x::M) Q S) (C:Ih B k):Val B k:=
 haveI h:=H.b i _ t
 wB f c (E.ctx n k nd C) (H.e i _ t) (A2 h).1 (A2 (A2 (A2 h).2).1).1 (A2 (A2 (A2 h).2).1).2 L j E.sup E.wg E.file E.top (A (A2 (A2 h).2).2) (C k2 j) y
omit E H in
theorem step(h:Ih B k)(v:Ih B k->Val B k):Ih B (k+1):=λj H=>(Nat.lt_succ_iff_lt_or_eq.1 H).elim (h j) λw=>w▸v h
theorem wq(C:Ih B 43):Val B 43:=
 UK (i:=43) (nl:=0) (fill:=KZ) E H rfl rfl (by decide) (rfl:BP 34=_) (by decide) (λh Z Z Z Z U P=>w8 U P.Tz P.U4 P.U5 P.U6 P.U7 h) (λA Q S x=>wk (c:=479) (W:=λa=>Dz B0 0 Nr a Q S) x (oh wV A Q S x) λs r h=>by
  apply Bh h;intro _ _ h;apply BN h;intro _ _ h;apply BN h;intro _ _ h;apply DM h;intro h;exact h.2.1) C
theorem wu(X:Ih B 77):Val B 77:=
 UK (i:=77) (nl:=0) (fill:=JK 8) E H rfl rfl (by decide) (rfl:BP 62=_) (by decide) (λh Z Z Z Z U P=>UJ P (UI U h)) (λA Q S x=>ah (c:=773) (W:=λa=>Dz B0 0 Qm a Q S) x (rT PA A Q S x) λs r h=>by
  apply Bh h;intro _ _ h;apply EZ h;intro _ _ h;apply BN h;intro _ _ h;apply BN h;intro _ _ h;apply BN h;intro _ _ h;apply BN h;intro _ _ h;apply BN h;intro _ _ h;apply DM h;intro h;exact h _ λZ Z Z Z C Z Z Z Z Z Z Z Z Z=>C) X
theorem wx(X:Ih B 79):Val B 79:=
 UK (i:=79) (nl:=0) (fill:=JK 6) E H rfl rfl (by decide) (rfl:BP 62=_) (by decide) (λh Z Z Z Z U P=>UJ P (UI U h)) (λA Q S x=>ah (c:=801) (W:=λa=>Dz B0 0 Qn a Q S) x (rU PA A Q S x) λs r h=>by
  apply Bh h;intro _ _ h;apply EZ h;intro _ _ h;apply BN h;intro _ _ h;apply BN h;intro _ _ h;apply BN h;intro _ _ h;apply DM h;intro h;exact h _ λZ Z Z Z C Z Z Z Z Z Z Z=>C) X
theorem wz:Val B 91:=by
 haveI F:Ih B 0:=λja h=>Ad h (Nat.not_lt_zero ja);haveI Q:=step F (Au (i:=0) E H rfl rfl (by decide) (kh Hq));haveI l:=step Q (Au (i:=1) E H rfl rfl (by decide) (ki Hq));haveI L:=step l (Au (i:=2) E H rfl rfl (by decide) (kj Hq));haveI U:=step L (Au (i:=3) E H rfl rfl (by decide) (kl Hq));haveI h5:=step U (Au (i:=4) E H rfl rfl (by decide) (l8 UC));haveI h6:=step h5 (GJ (i:=5) E H rfl rfl (rfl:BP 4=_) (by decide) rfl rfl);haveI h7:=step h6 (Au (i:=6) E H rfl rfl (by decide) (lA UC));haveI h8:=step h7 (Au (i:=7) E H rfl rfl (by decide) (lB UC));haveI h9:=step h8 (Au (i:=8) E H rfl rfl (by decide) (lF aX));haveI O:=step h9 (Au (i:=9) E H rfl rfl (by decide) (lE aX));haveI V:=step O (Au (i:=10) E H rfl rfl (by decide) (lJ wK));haveI a:=step V (Au (i:=11) E H rfl rfl (by decide) (l4 (I:=B0)));haveI j:=step a (Au (i:=12) E H rfl rfl (by decide) (km Hq));haveI p:=step j (Au (i:=13) E H rfl rfl (by decide) (kq Hq));haveI w:=step p (Au (i:=14) E H rfl rfl (by decide) (ku Hq));haveI A:=step w (wm (i:=15) E H rfl);haveI G:=step A (GJ (i:=16) E H rfl rfl (rfl:BP 15=_) (by decide) rfl rfl);haveI v:=step G (Au (i:=17) E H rfl rfl (by decide) (kv Hq));haveI C:=step v (Au (i:=18) E H rfl rfl (by decide) (rq UG));haveI M:=step C (GJ (i:=19) E H rfl rfl (rfl:BP 18=_) (by decide) rfl rfl);haveI T:=step M (Au (i:=20) E H rfl rfl (by decide) (lS Ii));haveI m:=step T (GJ (i:=21) E H rfl rfl (rfl:BP 20=_) (by decide) rfl rfl);haveI W:=step m (Au (i:=22) E H rfl rfl (by decide) (lT Ii));haveI y:=step W (Au (i:=23) E H rfl rfl (by decide) (lU Ii));haveI f:=step y (Au (i:=24) E H rfl rfl (by decide) (lb Ii));haveI n:=step f (Au (i:=25) E H rfl rfl (by decide) (lV Ii));haveI I:=step n (GJ (i:=26) E H rfl rfl (rfl:BP 25=_) (by decide) rfl rfl);haveI D:=step I (Au (i:=27) E H rfl rfl (by decide) (lW Ii));haveI K:=step D (Au (i:=28) E H rfl rfl (by decide) (lZ Ii));haveI R:=step K (Au (i:=29) E H rfl rfl (by decide) (kx Hq));haveI Y:=step R (Au (i:=30) E H rfl rfl (by decide) (m5 UD));haveI d:=step Y (Au (i:=31) E H rfl rfl (by decide) (lX Ii));haveI o:=step d (Au (i:=32) E H rfl rfl (by decide) (mD wL));haveI t:=step o (Au (i:=33) E H rfl rfl (by decide) (mI wM));haveI A0:=step t (Au (i:=34) E H rfl rfl (by decide) (mR wN));haveI N:=step A0 (Au (i:=35) E H rfl rfl (by decide) (lz UD));haveI P:=step N (Au (i:=36) E H rfl rfl (by decide) (mr ab));haveI X:=step P (Au (i:=37) E H rfl rfl (by decide) (n7 ae));haveI c:=step X (Au (i:=38) E H rfl rfl (by decide) (nF ae));haveI r:=step c (Au (i:=39) E H rfl rfl (by decide) (nf wO));haveI S:=step r (Au (i:=40) E H rfl rfl (by decide) (mP aZ));haveI x:=step S (Au (i:=41) E H rfl rfl (by decide) (mQ aZ));haveI e:=step x (Au (i:=42) E H rfl rfl (by decide) (m4 UD));haveI g:=step e (wq E H);haveI xA:=step g (GJ (i:=44) E H rfl rfl (rfl:BP 43=_) (by decide) rfl rfl);haveI xB:=step xA (Au (i:=45) E H rfl rfl (by decide) (mW ab));haveI xC:=step xB (Au (i:=46) E H rfl rfl (by decide) (o5 wQ));haveI xD:=step xC (Au (i:=47) E H rfl rfl (by decide) (oR wU));haveI xE:=step xD (Au (i:=48) E H rfl rfl (by decide) (oC wR));haveI xF:=step xE (Au (i:=49) E H rfl rfl (by decide) (pB (I:=B0)));haveI xG:=step xF (GJ (i:=50) E H rfl rfl (rfl:BP 49=_) (by decide) rfl rfl);haveI xH:=step xG (Au (i:=51) E H rfl rfl (by decide) (pC (I:=B0)));haveI xI:=step xH (Au (i:=52) E H rfl rfl (by decide) (pQ UE));haveI xJ:=step xI (GJ (i:=53) E H rfl rfl (rfl:BP 52=_) (by decide) rfl rfl);haveI xK:=step xJ (Au (i:=54) E H rfl rfl (by decide) (pH (I:=B0)));haveI xN:=step xK (Au (i:=55) E H rfl rfl (by decide) (pP UE));haveI xO:=step xN (Au (i:=56) E H rfl rfl (by decide) (pL (I:=B0)));haveI xP:=step xO (Au (i:=57) E H rfl rfl (by decide) (pN (I:=B0)));haveI xQ:=step xP (Au (i:=58) E H rfl rfl (by decide) (pD (I:=B0)));haveI xR:=step xQ (GJ (i:=59) E H rfl rfl (rfl:BP 58=_) (by decide) rfl rfl);haveI xS:=step xR (Au (i:=60) E H rfl rfl (by decide) (pR UE));haveI xT:=step xS (Au (i:=61) E H rfl rfl (by decide) (pe (I:=B0)));haveI xU:=step xT (Au (i:=62) E H rfl rfl (by decide) (rO wY));haveI xV:=step xU (Au (i:=63) E H rfl rfl (by decide) (Z1 (I:=B0)));haveI xW:=step xV (Au (i:=64) E H rfl rfl (by decide) (pg (I:=B0)));haveI xX:=step xW (Au (i:=65) E H rfl rfl (by decide) (ph (I:=B0)));haveI xY:=step xX (Au (i:=66) E H rfl rfl (by decide) (pj (I:=B0)));haveI xZ:=step xY (Au (i:=67) E H rfl rfl (by decide) (pn (I:=B0)));haveI xd:=step xZ (Au (i:=68) E H rfl rfl (by decide) (q9 (I:=B0)));haveI xe:=step xd (Au (i:=69) E H rfl rfl (by decide) (qB (I:=B0)));haveI xf:=step xe (Au (i:=70) E H rfl rfl (by decide) (qA (I:=B0)));haveI xg:=step xf (Au (i:=71) E H rfl rfl (by decide) (qN af));haveI xh:=step xg (Au (i:=72) E H rfl rfl (by decide) (qP ag));haveI xi:=step xh (Au (i:=73) E H rfl rfl (by decide) (qO af));haveI xj:=step xi (Au (i:=74) E H rfl rfl (by decide) (qZ ag));haveI xk:=step xj (Au (i:=75) E H rfl rfl (by decide) (qq wW));haveI xl:=step xk (Au (i:=76) E H rfl rfl (by decide) (qz wX));haveI xm:=step xl (wu E H);haveI xn:=step xm (GJ (i:=78) E H rfl rfl (rfl:BP 77=_) (by decide) rfl rfl);haveI xo:=step xn (wx E H);haveI xq:=step xo (GJ (i:=80) E H rfl rfl (rfl:BP 79=_) (by decide) rfl rfl);haveI xr:=step xq (Au (i:=81) E H rfl rfl (by decide) (rV PA));haveI xt:=step xr (Au (i:=82) E H rfl rfl (by decide) (rW PA));haveI xu:=step xt (Au (i:=83) E H rfl rfl (by decide) (rf (I:=B0)));haveI xv:=step xu (Au (i:=84) E H rfl rfl (by decide) (rh (I:=B0)));haveI xw:=step xv (Au (i:=85) E H rfl rfl (by decide) (rp (I:=B0)));haveI xx:=step xw (Au (i:=86) E H rfl rfl (by decide) (sW wZ));haveI xy:=step xx (Au (i:=87) E H rfl rfl (by decide) (tH wc));haveI y0:=step xy (Au (i:=88) E H rfl rfl (by decide) (si wb));haveI y7:=step y0 (Au (i:=89) E H rfl rfl (by decide) (sC UG));haveI y8:=step y7 (Au (i:=90) E H rfl rfl (by decide) (s7 UG));exact wo (i:=91) E H rfl y8
end
end
section
def y9(H:IntsAre v S):Af h (S.map .int) v:=by
 induction H with
 | nil=>exact .nil
 | cons n t _ C=>exact .cons (.int n t) C
noncomputable def PB (a:Addr)(S:List Int):AH where
 cls _:=none
 A4 _ _:=none
 A1 _:=none
 set _:=none
 AL _:=none
 AZ _:=none
 ro b:=if b=a then some S else none
def yA(K:Frag)(m:Str)(S:Ft)(l:Prop):Prop:=
 (Kc K m S)->(La K=true)->(Lb K=true)->(Ld K=true)->(Ny K=true)->((nsIn K mainGlobals "law"==some (some (BP 91)))=true)->((nsIn K mainGlobals "super"==some none)=true)->l
def GK(K:Frag)(m:Str)(S:Ft):Prop:=Ch (yA K m S)
section
variable{K:Frag}{mf:Str}{S:Ft}(zh:GK K mf S)
def GK.FR:=zh _ λz Z Z Z Z Z Z=>z
def GK.k1:=zh _ λZ z Z Z Z Z Z=>z
def GK.k2:=zh _ λZ Z z Z Z Z Z=>z
def GK.k3:=zh _ λZ Z Z z Z Z Z=>z
def GK.k4:=zh _ λZ Z Z Z z Z Z=>z
def GK.Jj:=zh _ λZ Z Z Z Z z Z=>z
def GK.sup:=zh _ λZ Z Z Z Z Z z=>z
end
def yB{K:Frag}{S:Ft}{p:Program}{w:World}{Q:Shared}{j m:Str->Option Value}{M:Str}(A:GK K M S)(D:K.In Q.heap)(H:Q.heap.Ns mainGlobals j)(d:Q.heap.Ns builtinsNs m)(N:Q.heap.NoLimit)(y:∀x:Str,x≠"__name__"->m x=bootBuiltins x)
  (L:p.main.file=M) (W:(p.main.scope.names.lookup ("super":Str)).isSome=false) {a f:Addr} {c:List Value} {P:List Int} {n:Nat} (C:IsL Q.heap a c.toArray n) (t:IntsAre c P) (hlen:P.length<=1000) (l:j "law"=some (.ref f)):
  codeAny (model p w) callerA (.call (.ref f) ⟨[.ref a],[]⟩) (λr s'=>r= .ok (.ret (.bool true))/\(∀b o,Q.heap.get? b=some o->s'.heap.get? b=some o)/\s'.gens=Q.gens/\s'.os=Q.os) Q:=by
 haveI A0:f=881:=by
  have:=mg_of D H (D7.1 A.Jj);have this:=(l)▸this;have:=BL this;haveI e:BP 91= .ref 881:=rfl;rw[e] at this;cases this;rfl
 subst A0;let B:Av:=⟨p,w,Q.heap,(let ⟨o,_,_,e,_⟩:=H;⟨mainGlobals,o,e,by decide⟩)⟩
 let G:Bw B:=⟨j,m,H,d⟩
 haveI E:El B K G M:=(λZ I=>I D N y (mg_none_of D H (D7.1 A.sup)) ((y _ (by decide)).trans (by kernel_rfl)) L W A.k1 A.k2 A.k3 A.k4);haveI V:=wz E A.FR;have O:∀b,¬B2 (PB a P) id b:=λb h=>by
  rcases h with h| ⟨_,h,_⟩| h| h| h| h<;>exact Ad rfl h
 haveI R:AB B id (PB a P) Q.heap:=by
  refine(λZ I=>I (λb o e=>e) (λZ Z h=>(by cases h)) (λZ Z h=>(by cases h)) (λZ Z h=>Ad rfl h) (λZ Z h=>(by cases h)) (λZ Z h=>(by cases h)) (λZ Z h=>(by cases h)) (λZ Z h=>(by cases h)) (λb h=>Ad h (O b)) (λZ Z h=>Ad rfl h) (λZ h=>Ad rfl h) (λZ h=>Ad rfl h) (λZ h=>h.elim (Ad rfl) (Ad rfl)) (λb la h=>?_));haveI h:(if b=a then some P else none)=some la:=h;by_cases g:b=a
  ·subst g;rw[A6 rfl] at h;haveI:=BL h;subst this;exact⟨c,n,C,y9 t⟩
  ·exact nO h (A5 g)
 haveI T:Bn (91+1) callerA:=(λZ I=>I (by decide) (by decide) rfl ⟨[],rfl⟩);haveI U:B0.spec 91 [.obj a] (λv Z=>v= .bool true) (PB a P):=⟨P,(by refine(?_:(if a=a then _ else _)=_);rw[A6 rfl]),hlen,λZ=>rfl⟩;refine codeAny_mono (V callerA [.obj a] [.ref a] _ (PB a P) id Q T U R (.cons (.obj a) .nil)) λr s' h=>?_;cases r with
 | error e=>exact h.elim
 | ok F=>
  cases F with
  | ret v=>
   refine h _ λu Aq D' X R' x Y=>?_;subst X;cases Y;exact⟨rfl,λb o e=>x.Ao b o e (O b),x.gens,x.os⟩
  | _=>exact h.elim
end
section
open PySem.Spec
noncomputable abbrev pw:Program:=PySem.Challenge.pw_sj0145_01
abbrev zP:Pos:=⟨0,0,0,0⟩
noncomputable def Mr:Env:={scope:=pw.main.scope,locals:=mainNs,globals:=mainNs,cells:=[],code:=.ref 13,frame:=some 14}
noncomputable def H9:Code:=.body (behindTheImports pw) Mr
noncomputable def oT:List Obj:=
 [{cls:=.type "tuple",data:=.seq #[]},{cls:=.none,data:=.fields #[]},
  {cls:=.type "code",data:=.fields #[.str "<module>" 182,.str "<module>" 183,.str "/claim/cut.py" 184,.int 1 0,.int 0 0,.int 0 0,.int 0 0,.int 0 0,.ref 11,.bool false,.int 181 0,.ref 12,.none,.none,.none,.none,.int 185 0,.int 1 0,.str "/claim/cut.py" 186]},
  {cls:=.type "frame",slots:= #[some (.ref 13),some (.ref 3),some (.ref 3),none,some (.str "__main__" 164),none,some (.ref 0)]}]
def hT (P:Params):Heap:={objs:=⟨(boot_heap P).objs.toList++oT⟩}
noncomputable def UL (O:List Obj):Nat->Nat->Nat->BT
 | 0,_,_=>.nil
 | n+1,a,b=>match O[b]? with
  | some o=>.node o (UL O n (2*a) (a+b)) (UL O n (2*a) (2*a+b))
  | none=>.nil
def PD (w:World)(o:OsState):SharedT:=⟨UL ((boot_heap w.params).objs.toList++oT) 5 1 0,15,{},#[],{},187,o⟩
noncomputable def PF:List Frame:=[topFrame zP]
def yC(w:World)(o:OsState):topGo treeTable pw w 11 (some (.ref 6)) 12 ⟨boot_heap w.params,#[],boot_drawn,boot_toks,o⟩ (topStub pw)=some (⟨hT w.params,#[],{},187,o⟩,⟨denote treeTable H9,H9,zP,PF⟩):=by kernel_rfl
def yD(w:World)(o:OsState):segRun treeTable pw w 11 (some (.ref 6)) 1 2 ⟨hT w.params,#[],{},187,o⟩ (blockOf (behindTheImports pw) Mr H9 zP PF)=some (.next,(PD w o).abs,H9,zP):=by kernel_rfl
noncomputable def fr:List Obj->Nat->Frag
 | [],_=>[]
 | o::l,n=>bif Nat.beq o.data.ctorIdx 10 then fr l (n+1) else(n,o)::fr l (n+1)
noncomputable def HA (h:Heap):Frag:=fr h.objs.toList 0
noncomputable def qT:Program:={pw with main:={pw.main with body:=pw.main.body.drop 85}}
noncomputable def Ij:List Str:=pw.boundNames.filter λx=>!(x=="law")
noncomputable def Ms:List Str:=importedModules pw.main.body
def Mt(s:Shared):Bool:=recOk (RowW.records (OpenLaw.row PySem.Challenge.rw_sj0145_01).toRowW) s
def yE(Q:(S.heap.isNs mainGlobals&&S.gens.size==0)=true)(z2:S.heap.objs.size=n)(D:S.heap.nsMap mainGlobals "__annotations__"=a)(run:topRun treeTable p w n a N S (topStub p)=some s)(l:(staticsOk (importedModules p.main.body) S.heap s.heap&&namesBound p s.heap&&gensDone s&&laidKept S.heap s.heap)=true):topFrom treeTable p w N S=some s:=by
 subst z2 D;unfold topFrom;rw[Q,run];show (match (staticsOk (importedModules p.main.body) S.heap s.heap&&namesBound p s.heap&&gensDone s&&laidKept S.heap s.heap) with| true=>some s| false=>none)=_
 rw[l]
def yF{p q:Program}{w:World}{L:List Str}{X:Shared->Bool}{e:Type}{Y:Shared->e}{v:e}{H B:Heap}{N n a b c:Nat}{l:List Stmt}{k k1:Nat}{d:Drawn}{A:Option Value}{o:OsState}{env:Env}{I:Code}{z:Pos}{st:SharedT}
  (R:(H.isNs mainGlobals&&(#[]:Array GenState).size==0)=true) (z2:H.objs.size=n) (E:H.nsMap mainGlobals "__annotations__"=A)
  (P:topGo treeTable p w n A a ⟨H,#[],d,k,o⟩ (topStub p)=some (⟨B,#[],{},k1,o⟩,⟨denote treeTable (.body l env),I,z,[topFrame z]⟩))
  (A0:segRun treeTable p w n A 1 b ⟨B,#[],{},k1,o⟩ (blockOf l env I z [topFrame z])=some (.next,st.abs,I,z))
  (h:(((segRunT treeTable p w n A 1 c st (piecesOf l env I z [topFrame z])).bind λr=>
   (topRun treeTable p w n A 2 r.2.1.abs ⟨doneF .next,r.2.2.1,r.2.2.2,[topFrame z]⟩).map λs=>(r,s)).map λx=>
   (x.1.1,x.1.2.2.1,staticsOk (importedModules p.main.body) H x.2.heap&&namesBound p x.2.heap&&gensDone x.2&&laidKept H x.2.heap,openSeen q L (importedModules p.main.body) X true x.2,Y x.2))=some (.next,I,true,openGood q L,v))
  (V:N=a+(b+(c+2))):(topFrom treeTable p w N ⟨H,#[],d,k,o⟩).map (λs=>(openSeen q L (importedModules p.main.body) X true s,Y s))=some (openGood q L,v):=by
 obtain ⟨⟨⟨f,s',D,F⟩,s⟩,m,U⟩:=BY.mp h;obtain ⟨r,Q,m⟩:=CP.mp m;obtain ⟨s2,K,m⟩:=BY.mp m;cases m;obtain ⟨rfl,rfl,M,t,g⟩:f= .next/\D=I/\_/\_/\_:=by simpa only[Prod.mk.injEq] using U
 have k1:=piece_app (rest:=[]) (segRun_of Q) (piece_nil K);have k2:=piece_block A0 (by rw[GR] at k1;exact k1);have k3:=go_top P k2;subst V;rw[yE R z2 E k3 M];exact AO some (Prod.ext t g)
def yG{A:Type}{y:Shared->A}{Y:World->A}{H:Params->Heap}(b:∀w:World,(fencedOpening treeTable p w N).map (λs=>(s.heap,s.gens,s.drawn,s.toks))=some (H w.params,Array.mk [],D,k))(h:∀(w:World)(o:OsState),(topFrom treeTable p w N ⟨H w.params,#[],D,k,o⟩).map (λs=>(openSeen q l (importedModules p.main.body) X true s,y s))=some (openGood q l,Y w)):LeftO p q l X y Y N:=λw=>by
 obtain ⟨⟨P,g,d,k,o⟩,e,Q⟩:=BY.1 (b w);cases Q;unfold openEnds;rw[e];exact h w o
def yH:opening pw=plainProg pw.main.scope.names:=by kernel_rfl
def zf(s:Shared):fenceModules? pw s=some s:=rfl
def yI(P:Params):((boot_heap P).isNs mainGlobals&&(#[]:Array GenState).size==0)=true:=by kernel_rfl
def yJ(P:Params):(boot_heap P).objs.size=11:=by kernel_rfl
def yK(P:Params):(boot_heap P).nsMap mainGlobals "__annotations__"=some (.ref 6):=by kernel_rfl
def aad:importedModules pw.main.body=Ms:=rfl
def yL:fr (x::l) n=bif Nat.beq x.data.ctorIdx 10 then fr l (n+1) else(n,x)::fr l (n+1):=rfl
def yM(l:List Obj)(n:Nat)(a:Addr)(o:Obj)(h:(fr l n).lookup a=some o):∃i,a=n+i/\l[i]?=some o/\o.data≠.freed:=by
 induction l generalizing n with
 | nil=>cases h
 | cons x l C=>
  have step:(fr l (n+1)).lookup a=some o->∃i,a=n+i/\(x::l)[i]?=some o/\o.data≠.freed:=λg=>
   (C (n+1) g).elim λi w=>⟨i+1,w.1.trans (Nat.add_right_comm n 1 i),w.2.1,w.2.2⟩
  rw[yL] at h;cases g:Nat.beq x.data.ctorIdx 10 with
  | true=>rw[g] at h;exact step h
  | false=>
   rw[g] at h;haveI h:(match a==n with| true=>some x| false=>(fr l (n+1)).lookup a)=some o:=h;cases e:a==n with
   | false=>rw[e] at h;exact step h
   | true=>
    rw[e] at h;refine⟨0,CQ e,h,λq=>?_⟩;rw[BL h,q] at g;cases g
def yN(h:Heap):(HA h).In h:=λa o e=>by
 obtain ⟨i,rfl,E,T⟩:=yM _ _ _ _ e;rw[Nat.zero_add];unfold Heap.get?;rw[<-Array.getElem?_toList,E];obtain ⟨c,d,D,S⟩:=o;cases D<;>first| rfl| exact Ad rfl T
noncomputable def dS (s:Stmt):List (Scope×List Stmt):=if h:s.ctorIdx=0 then Stmt.FunctionDef.elim (motive_2:=λZ=>List (Scope×List Stmt)) s h λZ Z b Z Z Z S Z Z Z=>[(S,b)] else []
noncomputable def dC (s:Stmt):List (Scope×List Stmt):=if h:s.ctorIdx=2 then Stmt.ClassDef.elim (motive_2:=λZ=>List (Scope×List Stmt)) s h λZ Z Z b Z Z Z Z Z Z Z=>b.flatMap dS else dS s
def Mu:Ft:=λi=>(pw.main.body.flatMap dC).getD i (default,[])
abbrev UM:Str:="/claim/cut.py"
def ai (s:Shared):Bool:=F2.all λr=>r.b (HA s.heap) UM Mu
def aj (s:Shared):List (Option (Scope×FuncBody)):=F2.foldr (λr l=>r.x (HA s.heap)::l) []
def ak (s:Shared):Bool:=(La (HA s.heap)&&(Lb (HA s.heap)&&(Ld (HA s.heap)&&Ny (HA s.heap))))&&((nsIn (HA s.heap) mainGlobals "law"==some (some (BP 91)))&&(nsIn (HA s.heap) mainGlobals "super"==some none))
abbrev Mv (s:Shared):List (Option (Scope×FuncBody))×Bool×Bool:=(aj s,ai s,ak s)
abbrev Mw (_:World):List (Option (Scope×FuncBody))×Bool×Bool:=(F2.map (Rw.e Mu),true,true)
theorem foldr_map{A x:Type}(f:A->x):∀l:List A,l.foldr (λr l=>f r::l) []=l.map f
 | []=>rfl
 | _::l=>AO _ (foldr_map f l)
def yO(h:Mv s=Mw w):GK (HA s.heap) UM Mu:=
 have H:=AO Prod.snd h;have b:=A2 (AO Prod.snd H);have c:=A2 b.1;have d:=A2 c.2;have e:=A2 d.2;have f:=A2 b.2
 (λZ B=>B (wj (AO Prod.fst H) ((foldr_map _ _).symm.trans (AO Prod.fst h))) c.1 d.1 e.1 e.2 f.1 f.2)
def PG (w:World)(o:OsState):=(PySem.W.Fast.tw10110043849684766642 PySem.W.Fast.tw14364793385576792824 pw w 11 (some (.ref 6)) 1 8000 (PD w o) (piecesOf (behindTheImports pw) Mr H9 zP PF)).bind λr=>
 (topRun treeTable pw w 11 (some (.ref 6)) 2 r.2.1.abs ⟨doneF .next,r.2.2.1,r.2.2.2,PF⟩).map λs=>(r,s)
theorem mz1{α β:Type}{o:Option α}{l:List β}{f:α->β->Bool}{n:Nat}(a:o.map (λx=>(l.take n).all (f x))=some true)(b:o.map (λx=>(l.drop n).all (f x))=some true):o.map (λx=>l.all (f x))=some true:=by
 cases o with
 | none=>exact a
 | some x=>
  have a:(l.take n).all (f x)=true:=Option.some.inj a
  have b:(l.drop n).all (f x)=true:=Option.some.inj b
  have c:l.all (f x)=((l.take n).all (f x)&&(l.drop n).all (f x)):=(congrArg (λz=>List.all z (f x)) (List.take_append_drop n l)).symm.trans List.all_append
  exact congrArg some (c.trans ((congr (congrArg and a) b).trans rfl))
theorem mz2(w:World)(o:OsState):(PG w o).map (λx=>(F2.take 45).all λr=>r.b (HA x.2.heap) UM Mu)=some true:=by kernel_rfl
theorem mz3(w:World)(o:OsState):(PG w o).map (λx=>(F2.drop 45).all λr=>r.b (HA x.2.heap) UM Mu)=some true:=by kernel_rfl
def m2(w:World)(o:OsState):(PG w o).map (λx=>ai x.2)=some true:=mz1 (n:=45) (mz2 w o) (mz3 w o)
def m1(w:World)(o:OsState):(PG w o).map (λx=>(x.1.1,x.1.2.2.1,staticsOk Ms (boot_heap w.params) x.2.heap&&namesBound pw x.2.heap&&gensDone x.2&&laidKept (boot_heap w.params) x.2.heap,openSeen qT Ij Ms Mt true x.2,aj x.2))=some (.next,H9,true,openGood qT Ij,F2.map (Rw.e Mu)):=by kernel_rfl
def m3(w:World)(o:OsState):(PG w o).map (λx=>ak x.2)=some true:=by kernel_rfl
def yP{A j y Q B m:Type}{o:Option A}{f:A->j×y×Q×B×m}{g h:A->Bool}{a:j}{b:y}{c:Q}{d:B}{e:m}(H:o.map f=some (a,b,c,d,e))(l:o.map g=some true)(K:o.map h=some true):o.map (λx=>((f x).1,(f x).2.1,(f x).2.2.1,(f x).2.2.2.1,(f x).2.2.2.2,g x,h x))=some (a,b,c,d,e,true,true):=by
 cases o with
 | none=>cases H
 | some x=>
  have l:g x=true:=BL l;have K:h x=true:=BL K;have H:f x=(a,b,c,d,e):=BL H;show some (_,_,_,_,_,g x,h x)=_
  rw[H,l,K]
def mT(w:World)(o:OsState):(PG w o).map (λx=>(x.1.1,x.1.2.2.1,staticsOk Ms (boot_heap w.params) x.2.heap&&namesBound pw x.2.heap&&gensDone x.2&&laidKept (boot_heap w.params) x.2.heap,openSeen qT Ij Ms Mt true x.2,Mv x.2))=some (.next,H9,true,openGood qT Ij,Mw w):=
 yP (m1 w o) (m2 w o) (m3 w o)
def yQ(w:World)(o:OsState):(((segRunT treeTable pw w 11 (some (.ref 6)) 1 8000 (PD w o) (piecesOf (behindTheImports pw) Mr H9 zP [topFrame zP])).bind λr=>
   (topRun treeTable pw w 11 (some (.ref 6)) 2 r.2.1.abs ⟨doneF .next,r.2.2.1,r.2.2.2,[topFrame zP]⟩).map λs=>(r,s)).map λx=>
   (x.1.1,x.1.2.2.1,staticsOk (importedModules pw.main.body) (boot_heap w.params) x.2.heap&&namesBound pw x.2.heap&&gensDone x.2&&laidKept (boot_heap w.params) x.2.heap,openSeen qT Ij (importedModules pw.main.body) Mt true x.2,Mv x.2))=some (.next,H9,true,openGood qT Ij,Mw w):=by
 rw[show segRunT treeTable=PySem.W.Fast.tw10110043849684766642 PySem.W.Fast.tw14364793385576792824 from congr PySem.W.Fast.te10110043849684766642 PySem.W.Fast.te14364793385576792824];exact mT w o
def yR:LeftO pw qT Ij Mt Mv Mw 8016:=
 yG (boot_open yH rfl zf) λw o=>yF (l:=behindTheImports pw) (env:=Mr) (I:=H9) (z:=zP) (st:=PD w o) (yI _) (yJ _) (yK _) (yC w o) (yD w o) (yQ w o) rfl
abbrev pr:Program:=PySem.Challenge.rw_sj0145_01.row.prog
def yS:namesResolve pr=true:=by decide+kernel
def yT:noRoadLSs {strict:=!(importedModules pr.main.body).all cThrough.contains,foot:=none,bare:=(["vars","dir","locals"]:List Str).filter (readsOut pr pr.main.body)} pr.main.body=true:=by decide+kernel
def yU:(namesMeet pr pr.main.body λZ n=>attrL n)=true:=by decide+kernel
def yV:PySem.Challenge.rw_sj0145_01.row.wellSaid=true:=by
 unfold OpenRow.wellSaid OpenRow.partSaid looksOpen
 repeat' (with_reducible refine look_both ?_ ?_)
 all_goals with_reducible first| exact yS| exact yT| exact yU| decide+kernel
def yW:PySem.Challenge.rw_sj0145_01.wellSaid=true:=by
 unfold OpenLaw.wellSaid
 repeat' (with_reducible refine look_both ?_ ?_)
 ·exact yV
 all_goals decide+kernel
def yX{P:Params}{h:Heap}{a:Addr}{v:List Value}{l:List Int}(p:h.IsList a v.toArray)(H:Well P h (.ref a) (ofPy (.list (l.map .int)))):∃n,IsL h a v.toArray n:=by
 obtain ⟨o,E,R,n,T⟩:=p;have H:Well P h (.ref a) (.list (ofPys (l.map PyData.int))):=H;cases H with
 | list e _=>
  rw[E] at e;have:=BL e;subst this;injection T with e4 e5
  refine⟨n,?_⟩;rw[IsL,E,e4,e5]
def yY:(PySem.W.defOf Mine.qT PySem.Challenge.rw_sj0145_01.row.name).isSome=true:=by rfl
def ao:=(PySem.W.defOf Mine.qT PySem.Challenge.rw_sj0145_01.row.name).get yY
def yZ:(PySem.Challenge.rw_sj0145_01.row.prog.main.scope.names.lookup ("super":Str)).isSome=false:=by kernel_rfl
def yb:PySem.Challenge.rw_sj0145_01.row.prog.main.file="/claim/cut.py":=by kernel_rfl
end
end Mine
set_option tactic.hygienic true in
set_option maxHeartbeats 4000000 in
theorem PySem.Challenge.cw_sj0145_01_holds : PySem.Challenge.rw_sj0145_01.Holds := by
 refine holds_law Mine.yW λX=>?_;refine holds_open (d:=Mine.ao.1) (kwd:=Mine.ao.2) (q:=Mine.qT) (loose:=Mine.Ij) (Xt:=Mine.Mt) (XP:=λZ Z=>True) (Yf:=Mine.Mv) (Ya:=Mine.Mw) (YP:=λZ h=>∃K:Frag,K.In h/\Mine.GK K Mine.UM Mine.Mu) (N:=8016) Mine.yR (λZ Z e=>⟨_,Mine.yN _,Mine.yO e⟩) (λZ Z Z ⟨K,i,a⟩ k=>⟨K,λb o e=>k b o (i b o e),a⟩) (λZ Z=>trivial) (λZ Z Z Z Z=>trivial) (by rfl) (by rfl) (by rfl) (λs e=>recFacts_of e) (by rfl) (by first| assumption| decide+kernel) (by decide+kernel) ⟨rfl,rfl,rfl,rfl,rfl,by decide+kernel⟩ ?H ?A0
 case H=>w_witness2
 intro wa J4 B8 m S G Y f o T P F E L U hd c l V w j vals D I A C y B;obtain ⟨K,v,N⟩:=Y;have g:=G.T;have O:m "law"=some (.ref f):=V;clear U hd c l V G
 wrow_args I A C y B
 refine enter_call ?_;rename_i t _ H _ p _ R _;obtain ⟨n,M⟩:=Mine.yX t H;refine codeAny_mono (Mine.yB N v g.g g.b g.nolimit g.builtins Mine.yb Mine.yZ M p (by omega) O) λr s' h=>?_;obtain ⟨e,Q,d,W⟩:=h;subst e;exact⟨.inl ⟨.bool true,.bool true,[],rfl,λZ=>rfl,ReadsW.bool true,by kernel_rfl,λZ=>⟨.nil,λZ x=>by cases x⟩⟩,.of_keep Q,W,.of_eq (d.trans w)⟩
