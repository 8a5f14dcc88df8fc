import PyProof.Rows.All
import Wide.All
import OpenK.AllK
import Wide.FinOn
import Lean
import PySem.Challenge.RW_pq1188_01
set_option Elab.async false
set_option maxRecDepth 100000
set_option linter.all false
set_option bootstrap.genMatcherCode false
set_option genSizeOf false
set_option genInjectivity false
open PySem PySem.W PySem.Calls PyProof.Rows
section
set_option tactic.hygienic false
set_option backward.match.sparseCases false
namespace Mine
theorem zK{α:Type}{P:Prop}{x:α}(h:(none:Option α)=some x):P:=nomatch h
theorem fne{P:Prop}(h:false=true):P:=nomatch h
theorem gk{G:Prop}(h:(G->False)->False):G:=Classical.byContradiction h
theorem ltsub{k n:Nat}(h:k < n):n - (k+1) < n - k:=by lia
theorem hlf(R n:Nat):R+n / 2<=R+(n+1) / 2:=Nat.add_le_add_left (Nat.div_le_div_right (Nat.le_succ n)) R
theorem hlf2(R n:Nat):R+n / 2+1<=R+(n+1+1) / 2:=by rw [Nat.add_div_right n (by decide:0 < 2)];exact Nat.le_refl _
theorem dropL{a p d:Nat}(h1:a<=p)(h2:p<=a+d):a+(d - (d - (p - a)))=p:=by lia
@[elab_as_elim] theorem rwp{α:Sort _}{a b:α}{P:α->Prop}(e:a=b)(h:P b):P a:=Eq.ndrec (motive:=P) h e.symm
inductive V where
 | none
 | bool (b:Bool)
 | int (i:Int)
 | str (s:Str)
 | bytes (b:List UInt8)
 | tup (vs:List V)
 | lst (vs:List V)
 | barr (b:List UInt8)
 | rng (n:Int)
 | obj (c:Addr) (ns:List Str) (vs:List V)
 | dct (ks vs:List V)
 | loc (i:Nat)
 | ref (a:Addr)
 | bi (id:String)
 | ty (n:String)
inductive O where
 | list (vs:List V)
 | dict (ks vs:List V)
 | attrs (ns:List Str) (vs:List V)
 | barr (b:List UInt8)
 | inst (c:Addr) (j:Nat)
 | cell (v:Option V)
 | clo (q x:Str) (sc:Scope) (body:Expr) (cs:List (Str×Nat))
 | tab
 | raw (o:Obj)
noncomputable abbrev xX(items:Array Value)(n:Nat):Obj:={ cls:=.type "tuple",data:=.seq items n }
noncomputable abbrev yP(b:List UInt8):Obj:={ cls:=.type "bytearray",data:=.bytearray ⟨b⟩ }
noncomputable abbrev rngOf(vs:Array Value):Obj:={ cls:=.type "range",data:=.fields vs }
mutual
noncomputable def xK(w:World):V->Int
 | .int i=>hashInt i
 | .bytes b=>hashW w.params (.bytes b)
 | .str s=>hashStr w s
 | .tup vs=>reduceHash (Builtin.Tuple.tupleHashOf (xL w vs))
 | _=>0
noncomputable def xL(w:World):List V->List Int
 | []=>[]
 | x::xs=>xK w x::xL w xs
end
inductive KeyC(x:Str)(P:List Value->Prop)(l:List Value):Prop
 | mk (t:Tok) (ys:List Value) (e:l=.str x t::ys) (d:P ys)
noncomputable def xW:List Str->List Value->Prop
 | [],l=>l=[]
 | x::xs,l=>KeyC x (xW xs) l
inductive SeqD(own:List Addr)(h:Heap)(o:Array Value->Nat->Obj)(P:List Value->Prop)(v:Value):Prop
 | mk (a:Addr) (its:Array Value) (n:Nat) (e:v=.ref a) (na:a∉own) (g:h.get? a=some (o its n)) (d:P its.toList)
inductive BarD(own:List Addr)(h:Heap)(o:Obj)(v:Value):Prop
 | mk (a:Addr) (e:v=.ref a) (na:a∉own) (g:h.get? a=some o)
inductive RngD(own:List Addr)(h:Heap)(n:Int)(v:Value):Prop
 | mk (a:Addr) (its:Array Value) (t0 t1 t2:Tok) (e:v=.ref a) (na:a∉own) (g:h.get? a=some (rngOf its)) (q:its=#[.int 0 t0,.int n t1,.int 1 t2]/\0<=n/\n < 2 ^ 62)
inductive ObjD(own:List Addr)(h:Heap)(c:Addr)(ns:List Str)(P:List Value->Prop)(v:Value):Prop
 | mk (a dx:Addr) (es:List DictEntry) (n:Nat) (e:v=.ref a) (na:a∉own) (nd:dx∉own) (g:h.get? a=some (instObj c dx)) (gd:h.get? dx=some (dictOf es n)) (k:xW ns (es.map DictEntry.key)) (d:P (es.map DictEntry.val))
inductive DctD(w:World)(own:List Addr)(h:Heap)(ks:List V)(P P':List Value->Prop)(v:Value):Prop
 | mk (a:Addr) (es:List DictEntry) (n:Nat) (e:v=.ref a) (nm:a≠sysModules) (na:a∉own) (g:h.get? a=some (dictOf es n)) (D:es.map DictEntry.hash=xL w ks/\P (es.map DictEntry.key)/\P' (es.map DictEntry.val))
inductive LocD(ρ:List Addr)(i:Nat)(v:Value):Prop
 | mk (a:Addr) (e:v=.ref a) (q:ρ[i]?=some a)
inductive ConsD(P:Value->Prop)(P':List Value->Prop)(l:List Value):Prop
 | mk (y:Value) (ys:List Value) (e:l=y::ys) (d:P y) (dl:P' ys)
mutual
noncomputable def Den(w:World)(own:List Addr)(ρ:List Addr)(h:Heap):V->Value->Prop
 | .none,v=>v=.none
 | .bool b,v=>v=.bool b
 | .int i,v=>∃ t,v=.int i t
 | .str s,v=>∃ t,v=.str s t
 | .bytes b,v=>∃ t,v=.bytes ⟨b⟩ t
 | .tup vs,v=>SeqD own h xX (fun l=>DenL w own ρ h vs l) v
 | .lst vs,v=>SeqD own h listOf (fun l=>DenL w own ρ h vs l) v
 | .barr b,v=>BarD own h (yP b) v
 | .rng n,v=>RngD own h n v
 | .obj c ns vs,v=>ObjD own h c ns (fun l=>DenL w own ρ h vs l) v
 | .dct ks vs,v=>DctD w own h ks (fun l=>DenL w own ρ h ks l) (fun l=>DenL w own ρ h vs l) v
 | .loc i,v=>LocD ρ i v
 | .ref a,v=>v=.ref a
 | .bi id,v=>v=.builtin id
 | .ty n,v=>v=.type n
noncomputable def DenL(w:World)(own:List Addr)(ρ:List Addr)(h:Heap):List V->List Value->Prop
 | [],l=>l=[]
 | x::xs,l=>ConsD (fun v=>Den w own ρ h x v) (fun l=>DenL w own ρ h xs l) l
end
noncomputable def Ev(own:List Addr)(h:Heap)(own':List Addr)(h':Heap):Prop:=∀ a o,h.get? a=some o->a∉own->h'.get? a=some o/\a∉own'
theorem Ev.refl(own h):Ev own h own h:=fun _ _ e n=>⟨e,n⟩
theorem Ev.grow{own h h'}(k:∀ b o,h.get? b=some o->h'.get? b=some o):Ev own h own h':=fun _ _ e n=>⟨k _ _ e,n⟩
theorem Ev.upd{own h h' a}(hs:Heap.SameBut a h h')(ha:a∈own):Ev own h own h':=fun b _ e n=>⟨(hs.2 b fun q=>n (q ▸ ha)).trans e,n⟩
theorem Ev.less{own own' h}(k:∀ a∈own',a∈own):Ev own h own' h:=fun _ _ e n=>⟨e,fun q=>n (k _ q)⟩
noncomputable def leafV:V->Bool
 | .tup _=>false
 | .lst _=>false
 | .barr _=>false
 | .rng _=>false
 | .obj ..=>false
 | .dct ..=>false
 | .loc _=>false
 | _=>true
theorem V.ind{P:V->Prop}{PL:List V->Prop}(nil:PL [])(cons:∀ x xs,P x->PL xs->PL (x::xs))(tup:∀ vs,PL vs->P (.tup vs))(lst:∀ vs,PL vs->P (.lst vs))(barr:∀ b,P (.barr b))(rng:∀ n,P (.rng n))
  (obj:∀ c ns vs,PL vs->P (.obj c ns vs)) (dct:∀ ks vs,PL ks->PL vs->P (.dct ks vs)) (loc:∀ i,P (.loc i)) (leaf:∀ v,leafV v=true->P v):(∀ v,P v)/\∀ vs,PL vs :=
 ⟨V.rec (motive_2:=PL) (leaf _ rfl) (fun _=>leaf _ rfl) (fun _=>leaf _ rfl) (fun _=>leaf _ rfl) (fun _=>leaf _ rfl) tup lst barr rng obj dct loc (fun _=>leaf _ rfl) (fun _=>leaf _ rfl) (fun _=>leaf _ rfl) nil cons,
  V.rec_1 (motive_1:=P) (leaf _ rfl) (fun _=>leaf _ rfl) (fun _=>leaf _ rfl) (fun _=>leaf _ rfl) (fun _=>leaf _ rfl) tup lst barr rng obj dct loc (fun _=>leaf _ rfl) (fun _=>leaf _ rfl) (fun _=>leaf _ rfl) nil cons⟩
theorem leaf_den{w own own' ρ ρ' h h'}{v:V}{x:Value}(l:leafV v=true)(d:Den w own ρ h v x):Den w own' ρ' h' v x:=by
 induction v using Mine.V.casesOn <;> first | exact d | exact fne l
theorem Den.both{w own own' ρ ρ' h h'}(k:Ev own h own' h')(r:∀ (i:Nat) (a:Addr),ρ[i]?=some a->ρ'[i]?=some a):(∀ V:V,∀ v:Value,Den w own ρ h V v->Den w own' ρ' h' V v)/\∀ V:List V,∀ v:List Value,DenL w own ρ h V v->DenL w own' ρ' h' V v:=by
 refine V.ind (fun _ e=>e) (fun x xs ix ixs v d=>?_) (fun vs ih v d=>?_) (fun vs ih v d=>?_) (fun b v d=>?_) (fun n v d=>?_) (fun c ns vs ih v d=>?_) (fun ks vs i1 i2 v d=>?_) (fun i v d=>?_) (fun v l x d=>leaf_den l d)
 ·obtain ⟨y,ys,e,d,dl⟩:=d;exact ⟨y,ys,e,ix y d,ixs ys dl⟩
 ·obtain ⟨a,its,n,e,na,g,d⟩:=d;exact ⟨a,its,n,e,(k a _ g na).2,(k a _ g na).1,ih _ d⟩
 ·obtain ⟨a,its,n,e,na,g,d⟩:=d;exact ⟨a,its,n,e,(k a _ g na).2,(k a _ g na).1,ih _ d⟩
 ·obtain ⟨a,e,na,g⟩:=d;exact ⟨a,e,(k a _ g na).2,(k a _ g na).1⟩
 ·obtain ⟨a,its,t0,t1,t2,e,na,g,q⟩:=d;exact ⟨a,its,t0,t1,t2,e,(k a _ g na).2,(k a _ g na).1,q⟩
 ·obtain ⟨a,dx,es,n,e,na,nd,g,gd,ks,d⟩:=d;exact ⟨a,dx,es,n,e,(k a _ g na).2,(k dx _ gd nd).2,(k a _ g na).1,(k dx _ gd nd).1,ks,ih _ d⟩
 ·obtain ⟨a,es,n,e,nm,na,g,hh,d1,d2⟩:=d;exact ⟨a,es,n,e,nm,(k a _ g na).2,(k a _ g na).1,hh,i1 _ d1,i2 _ d2⟩
 ·obtain ⟨a,e,q⟩:=d;exact ⟨a,e,r i a q⟩
theorem Den.mono{w own own' ρ ρ' h h'}(k:Ev own h own' h')(r:∀ (i:Nat) (a:Addr),ρ[i]?=some a->ρ'[i]?=some a)(V:V)(v:Value)(d:Den w own ρ h V v):Den w own' ρ' h' V v:=(Den.both k r).1 V v d
theorem DenL.mono{w own own' ρ ρ' h h'}(k:Ev own h own' h')(r:∀ (i:Nat) (a:Addr),ρ[i]?=some a->ρ'[i]?=some a)(V:List V)(v:List Value)(d:DenL w own ρ h V v):DenL w own' ρ' h' V v:=(Den.both k r).2 V v d
theorem DenL.nil_iff{w own ρ h l}:DenL w own ρ h [] l<->l=[]:=Iff.rfl
theorem DenL.cons{w own ρ h x xs y ys}(a:Den w own ρ h x y)(b:DenL w own ρ h xs ys):DenL w own ρ h (x::xs) (y::ys):=⟨y,ys,rfl,a,b⟩
theorem DenL.length{w own ρ h}{xs:List V}:∀ {ys:List Value},DenL w own ρ h xs ys->ys.length=xs.length:=by
 induction xs with
 | nil=>intro ys e;rw [show ys=[] from e];rfl
 | cons x xs ih=>intro ys d;obtain ⟨_,_,e,_,d⟩:=d;rw [e,List.length_cons,List.length_cons,ih d]
theorem DenL.append{w own ρ h}{xs xs':List V}{ys':List Value}:∀ {ys:List Value},DenL w own ρ h xs ys->DenL w own ρ h xs' ys'->DenL w own ρ h (xs++xs') (ys++ys'):=by
 induction xs with
 | nil=>intro ys e d;refine rwp (show ys=[] from e) ?_;exact d
 | cons x xs ih=>intro ys d d';obtain ⟨_,_,e,a,d⟩:=d;refine rwp e ?_;exact ⟨_,_,rfl,a,ih d d'⟩
theorem DenL.get{w own ρ h}{xs:List V}:∀ {ys:List Value} {i:Nat} {x:V},DenL w own ρ h xs ys->xs[i]?=some x->∃ y,ys[i]?=some y/\Den w own ρ h x y:=by
 induction xs with
 | nil=>intro ys i x _ e;exact zK (List.getElem?_nil.symm.trans e)
 | cons z xs ih =>
  intro ys i x d e';obtain ⟨y,_,e,a,d⟩:=d;refine rwp e ?_;induction i using Nat.casesAuxOn with
  | zero=>exact ⟨y,rfl,Option.some.inj e' ▸ a⟩
  | succ i=>exact ih (i:=i) d e'
theorem DenL.take{w own ρ h}{xs:List V}:∀ {ys:List Value} (n:Nat),DenL w own ρ h xs ys->DenL w own ρ h (xs.take n) (ys.take n):=by
 induction xs with
 | nil=>intro ys n e;refine rwp (show ys=[] from e) ?_;refine rwp List.take_nil ?_;refine rwp List.take_nil ?_;rfl
 | cons x xs ih =>
  intro ys n d;obtain ⟨_,_,e,a,d⟩:=d;refine rwp e ?_;induction n using Nat.casesAuxOn with
  | zero=>rfl
  | succ n=>exact ⟨_,_,rfl,a,ih n d⟩
theorem DenL.drop{w own ρ h}{xs:List V}:∀ {ys:List Value} (n:Nat),DenL w own ρ h xs ys->DenL w own ρ h (xs.drop n) (ys.drop n):=by
 induction xs with
 | nil=>intro ys n e;refine rwp (show ys=[] from e) ?_;refine rwp List.drop_nil ?_;refine rwp List.drop_nil ?_;rfl
 | cons x xs ih =>
  intro ys n d;induction n using Nat.casesAuxOn with
  | zero=>exact d
  | succ n=>obtain ⟨_,_,e,_,d⟩:=d;refine rwp e ?_;exact ih n d
theorem DenL.set{w own ρ h}{x:V}{y:Value}{xs:List V}:∀ {ys:List Value} {i:Nat},DenL w own ρ h xs ys->Den w own ρ h x y->DenL w own ρ h (xs.set i x) (ys.set i y):=by
 induction xs with
 | nil=>intro ys i e _;refine rwp (show ys=[] from e) ?_;rfl
 | cons z xs ih =>
  intro ys i d a';obtain ⟨_,_,e,a,d⟩:=d;refine rwp e ?_;induction i using Nat.casesAuxOn with
  | zero=>exact ⟨_,_,rfl,a',d⟩
  | succ i=>exact ⟨_,_,rfl,a,ih d a'⟩
theorem DenL.reverse{w own ρ h}{xs:List V}:∀ {ys:List Value},DenL w own ρ h xs ys->DenL w own ρ h xs.reverse ys.reverse:=by
 induction xs with
 | nil=>intro ys e;refine rwp (show ys=[] from e) ?_;rfl
 | cons x xs ih =>
  intro ys d;obtain ⟨_,_,e,a,d⟩:=d;refine rwp e ?_;refine rwp List.reverse_cons ?_;refine rwp List.reverse_cons ?_;exact DenL.append (ih d) (DenL.cons a rfl)
noncomputable def lamOne(a:Str)(p:Option PySem.Expr)(q:Pos):Arguments:=⟨[],[⟨a,p,q⟩],none,[],[],none,[]⟩
noncomputable def one1{α β:Type}(l:List α)(f:α->Option β):Option β:=match l with
 | []=>none
 | a::r=>match r with
  | []=>f a
  | _=>none
theorem one1_of{α β:Type}{l:List α}{f:α->Option β}{r:β}(h:one1 l f=some r):∃ a,l=[a]/\f a=some r:=by
 rcases l with _ | ⟨a,_ | ⟨b,l⟩⟩
 ·exact zK h
 ·exact ⟨a,rfl,h⟩
 ·exact zK h
noncomputable def lamArg(ps:Arguments):Option Str:=match ps.posonlyargs.isEmpty&&ps.vararg.isNone&&ps.kwonlyargs.isEmpty&&ps.kw_defaults.isEmpty&&ps.kwarg.isNone&&ps.defaults.isEmpty with
 | true=>one1 ps.args fun a=>some a.arg
 | false=>none
theorem lamArg_of{ps:Arguments}{x:Str}(h:lamArg ps=some x):∃ p q,ps=lamOne x p q:=by
 unfold lamArg at h;cases hb:(ps.posonlyargs.isEmpty&&ps.vararg.isNone&&ps.kwonlyargs.isEmpty&&ps.kw_defaults.isEmpty&&ps.kwarg.isNone&&ps.defaults.isEmpty) with
 | false=>rw [hb] at h;exact zK h
 | true =>
  rw [hb] at h;obtain ⟨a,e,h⟩:=one1_of h;obtain ⟨po,ar,va,ko,kd,kw,df⟩:=ps;simp only [Bool.and_eq_true,List.isEmpty_iff,Option.isNone_iff_eq_none] at hb;obtain ⟨⟨⟨⟨⟨rfl,rfl⟩,rfl⟩,rfl⟩,rfl⟩,rfl⟩:=hb;obtain ⟨n,p,q⟩:=a;exact ⟨p,q,by refine rwp (show ar=_ from e) ?_;refine rwp (Option.some.inj h).symm ?_;rfl⟩
inductive SeqO(P:List Value->Prop)(o:Obj):Prop
 | mk (its:Array Value) (n:Nat) (e:o=listOf its n) (d:P its.toList)
inductive DctO(w:World)(ks:List V)(P P':List Value->Prop)(o:Obj):Prop
 | mk (es:List DictEntry) (n:Nat) (e:o=dictOf es n) (D:es.map DictEntry.hash=xL w ks/\P (es.map DictEntry.key)/\P' (es.map DictEntry.val))
inductive AttO(ns:List Str)(P:List Value->Prop)(o:Obj):Prop
 | mk (es:List DictEntry) (n:Nat) (e:o=dictOf es n) (k:xW ns (es.map DictEntry.key)) (d:P (es.map DictEntry.val))
inductive CelO(P:Value->Prop)(o:Obj):Prop
 | mk (v:Value) (e:o.data=.cell (some v)) (d:P v)
inductive CodAt(h:Heap)(q:Str)(c':Addr):Prop
 | mk (oc:Obj) (vs:Array Value) (t:Tok) (g:h.get? c'=some oc) (q':oc.data=.fields vs/\vs[1]?=some (.str q t))
inductive CloO'(own ρ:List Addr)(h:Heap)(q x:Str)(sc:Scope)(body:PySem.Expr)(cs:List (Str×Nat))(o:Obj):Prop
 | mk (ps:Arguments) (cl:List (Str×Addr)) (pm:Value) (ctv:Value) (c':Addr) (e:o=kla_obj "<lambda>" q ps body sc cl pm c' ctv) (hx:lamArg ps=some x) (nc:c'∉own)
  (g:CodAt h q c') (z:∀ y i,cs.lookup y=some i->∃ a,cl.lookup y=some a/\ρ[i]?=some a)
noncomputable def ODen(w:World)(own ρ:List Addr)(h:Heap):O->Obj->Prop
 | .list vs,o=>SeqO (DenL w own ρ h vs) o
 | .dict ks vs,o=>DctO w ks (DenL w own ρ h ks) (DenL w own ρ h vs) o
 | .attrs ns vs,o=>AttO ns (DenL w own ρ h vs) o
 | .barr b,o=>o=yP b
 | .inst c j,o=>∃ dx,ρ[j]?=some dx/\o=instObj c dx
 | .cell none,o=>o.data=.cell none
 | .cell (some V),o=>CelO (Den w own ρ h V) o
 | .clo q x sc body cs,o=>CloO' own ρ h q x sc body cs o
 | .tab,o=>∃ ps,o=tabObj ps
 | .raw o',o=>o=o'
theorem ODen.mono{w own own' ρ ρ' h h'}(k:Ev own h own' h')(r:∀ (i:Nat) (a:Addr),ρ[i]?=some a->ρ'[i]?=some a)(X:O)(o:Obj)(D:ODen w own ρ h X o):ODen w own' ρ' h' X o:=by
 induction X using Mine.O.casesOn with
 | list=>obtain ⟨its,n,e,d⟩:=D;exact ⟨its,n,e,DenL.mono k r _ _ d⟩
 | dict=>obtain ⟨es,n,e,hh,d1,d2⟩:=D;exact ⟨es,n,e,hh,DenL.mono k r _ _ d1,DenL.mono k r _ _ d2⟩
 | attrs=>obtain ⟨es,n,e,hh,d2⟩:=D;exact ⟨es,n,e,hh,DenL.mono k r _ _ d2⟩
 | inst _ j=>obtain ⟨dx,e,q⟩:=D;exact ⟨dx,r j dx e,q⟩
 | cell v=>induction v using Option.casesOn with
  | none=>exact D
  | some V=>obtain ⟨v,e,d⟩:=D;exact ⟨v,e,Den.mono k r _ _ d⟩
 | clo=>obtain ⟨ps,cl,pm,ctv,c',e,hx,n,⟨oc,vs,t,g,q⟩,z⟩:=D;exact ⟨ps,cl,pm,ctv,c',e,hx,(k c' _ g n).2,⟨oc,vs,t,(k c' _ g n).1,q⟩,fun y i e=>(z y i e).imp fun a h=>⟨h.1,r i a h.2⟩⟩
 | _=>exact D
noncomputable abbrev Loc:=List (Str×V)
noncomputable def FrD(w:World)(own ρ:List Addr)(L:Addr)(m:Loc)(h:Heap):Prop:=∃ mm,h.Ns L mm/\∀ x V,m.lookup x=some V->∃ v,mm x=some v/\Den w own ρ h V v
inductive ObjAt(w:World)(own ρ:List Addr)(h:Heap)(X:O)(a:Addr):Prop
 | mk (o:Obj) (g:h.get? a=some o) (d:ODen w own ρ h X o)
structure Sat(w:World)(own:List Addr)(L:Addr)(ρ:List Addr)(m:Loc)(σ:List O)(h:Heap):Prop where
 len:ρ.length=σ.length
 nodup:ρ.Nodup
 nl:L∉ρ
 sub:∀ a∈L::ρ,a∈own
 lt:∀ a∈own,a < h.objs.size
 objs:∀ (i:Nat) (X:O) (a:Addr),σ[i]?=some X->ρ[i]?=some a->ObjAt w own ρ h X a
 fr:FrD w own ρ L m h
structure Step(own:List Addr)(L:Addr)(ρ:List Addr)(s:Shared)(own' ρ':List Addr)(s':Shared):Prop where
 gens:s'.gens=s.gens
 os:s'.os=s.os
 sub:∀ a∈own,a∈own'
 new:∀ a,a < s.heap.objs.size->a∉own->a∉own'
 pre:∀ (i:Nat) (a:Addr),ρ[i]?=some a->ρ'[i]?=some a
 newρ:∀ a,a < s.heap.objs.size->a∉ρ->a∉ρ'
 size:s.heap.objs.size<=s'.heap.objs.size
 keep:∀ a o,s.heap.get? a=some o->a∉L::ρ->s'.heap.get? a=some o
theorem Step.ev{own L ρ s own' ρ' s'}(x:Step own L ρ s own' ρ' s')(hs:∀ a∈L::ρ,a∈own):Ev own s.heap own' s'.heap :=
 fun a o e n=>⟨x.keep a o e fun q=>n (hs a q),x.new a (Heap.lt_size e) n⟩
theorem Step.refl(own L ρ s):Step own L ρ s own ρ s:=⟨rfl,rfl,fun _ q=>q,fun _ _ q=>q,fun _ _ q=>q,fun _ _ q=>q,Nat.le_refl _,fun _ _ e _=>e⟩
theorem Step.trans{own1 L ρ1 s1 own2 ρ2 s2 own3 ρ3 s3}(x:Step own1 L ρ1 s1 own2 ρ2 s2)(y:Step own2 L ρ2 s2 own3 ρ3 s3):Step own1 L ρ1 s1 own3 ρ3 s3 :=
 ⟨y.gens.trans x.gens,y.os.trans x.os,fun a q=>y.sub a (x.sub a q),fun a l q=>y.new a (Nat.lt_of_lt_of_le l x.size) (x.new a l q),fun i a e=>y.pre i a (x.pre i a e),
  fun a l q=>y.newρ a (Nat.lt_of_lt_of_le l x.size) (x.newρ a l q),Nat.le_trans x.size y.size,
  fun a o e n=>y.keep a o (x.keep a o e n) fun q=>by
   rcases List.mem_cons.mp q with q | q
   ·exact n (q ▸ .head _)
   ·exact x.newρ a (Heap.lt_size e) (fun z=>n (.tail _ z)) q⟩
structure Grow(s s':Shared):Prop where
 gens:s'.gens=s.gens
 os:s'.os=s.os
 size:s.heap.objs.size<=s'.heap.objs.size
 keep:∀ b o,s.heap.get? b=some o->s'.heap.get? b=some o
theorem Grow.refl(s):Grow s s:=⟨rfl,rfl,Nat.le_refl _,fun _ _ e=>e⟩
theorem Grow.tok(s:Shared)(t):Grow s { s with toks:=t }:=⟨rfl,rfl,Nat.le_refl _,fun _ _ e=>e⟩
theorem Grow.trans{s1 s2 s3}(x:Grow s1 s2)(y:Grow s2 s3):Grow s1 s3:=⟨y.gens.trans x.gens,y.os.trans x.os,Nat.le_trans x.size y.size,fun b o e=>y.keep b o (x.keep b o e)⟩
theorem Grow.push(s:Shared)(o:Obj)(t):Grow s { s with heap:=s.heap.push o,toks:=t }:=⟨rfl,rfl,by show _<=(s.heap.push o).objs.size;rw [Heap.size_push];exact Nat.le_succ _,fun _ _ e=>Heap.get?_push_of_some _ e⟩
theorem Grow.step{s s'}(g:Grow s s')(own L ρ):Step own L ρ s own ρ s':=⟨g.gens,g.os,fun _ q=>q,fun _ _ q=>q,fun _ _ q=>q,fun _ _ q=>q,g.size,fun _ _ e _=>g.keep _ _ e⟩
theorem Grow.ev{s s'}(g:Grow s s')(own):Ev own s.heap own s'.heap:=Ev.grow g.keep
theorem Den.grow{w own ρ h h' V v}(d:Den w own ρ h V v)(k:∀ b o,h.get? b=some o->h'.get? b=some o):Den w own ρ h' V v:=d.mono (Ev.grow k) (fun _ _ q=>q)
theorem DenL.grow{w own ρ h h' V v}(d:DenL w own ρ h V v)(k:∀ b o,h.get? b=some o->h'.get? b=some o):DenL w own ρ h' V v:=d.mono (Ev.grow k) (fun _ _ q=>q)
theorem FrD.mono{w own own' ρ ρ' L m h h'}(F:FrD w own ρ L m h)(k:Ev own h own' h')(r:∀ (i:Nat) (a:Addr),ρ[i]?=some a->ρ'[i]?=some a)(keep:∀ o,h.get? L=some o->h'.get? L=some o):FrD w own' ρ' L m h':=by
 obtain ⟨mm,⟨o,es,ep,e,q⟩,d⟩:=F;exact ⟨mm,⟨o,es,ep,keep o e,q⟩,fun x V e=>let ⟨v,a,b⟩:=d x V e;⟨v,a,b.mono k r⟩⟩
section
variable{w:World}{own:List Addr}{L:Addr}{ρ:List Addr}{m:Loc}{σ:List O}{h h':Heap}{s s':Shared}
theorem Sat.grow(S:Sat w own L ρ m σ h)(z:h.objs.size<=h'.objs.size)(k:∀ b o,h.get? b=some o->h'.get? b=some o):Sat w own L ρ m σ h' :=
 ⟨S.len,S.nodup,S.nl,S.sub,fun a q=>Nat.lt_of_lt_of_le (S.lt a q) z,fun i X a e1 e2=>let ⟨o,g,d⟩:=S.objs i X a e1 e2;⟨o,k _ _ g,d.mono (Ev.grow k) (fun _ _ q=>q)⟩,
  S.fr.mono (Ev.grow k) (fun _ _ q=>q) fun _ e=>k _ _ e⟩
theorem Sat.grows(S:Sat w own L ρ m σ s.heap)(g:Grow s s'):Sat w own L ρ m σ s'.heap:=S.grow g.size g.keep
theorem Sat.mem{i:Nat}{a:Addr}(S:Sat w own L ρ m σ h)(ha:ρ[i]?=some a):a∈own:=S.sub a (.tail _ (List.mem_of_getElem? ha))
theorem Sat.upd{i:Nat}{a:Addr}{X':O}{o':Obj}(S:Sat w own L ρ m σ h)(ha:ρ[i]?=some a)(hs:Heap.SameBut a h h')(g:h'.get? a=some o')(d:ODen w own ρ h X' o'):Sat w own L ρ m (σ.set i X') h':=by
 have hm:a∈ρ:=List.mem_of_getElem? ha;have k:Ev own h own h':=Ev.upd hs (S.mem ha);refine ⟨by refine rwp List.length_set ?_;exact S.len,S.nodup,S.nl,S.sub,fun b q=>by refine rwp hs.1 ?_;exact S.lt b q,fun j X b e1 e2=>?_,S.fr.mono k (fun _ _ q=>q) fun o e=>(hs.2 L fun q=>S.nl (q ▸ hm)).trans e⟩;rw [List.getElem?_set] at e1;split at e1
 ·rename_i q
  subst q;rw [ha] at e2;cases e2;split at e1
  ·cases e1;exact ⟨o',g,d.mono k (fun _ _ q=>q)⟩
  ·cases e1
 ·rename_i q
  obtain ⟨o,g',d'⟩:=S.objs j X b e1 e2;have hne:b≠a:=fun z=>by
   subst z;obtain ⟨h1,h2⟩:=List.getElem?_eq_some_iff.mp ha;obtain ⟨h3,h4⟩:=List.getElem?_eq_some_iff.mp e2;exact q ((List.getElem_inj S.nodup).mp (h2.trans h4.symm))
  exact ⟨o,(hs.2 b hne).trans g',d'.mono k (fun _ _ q=>q)⟩
theorem Step.upd{i:Nat}{a:Addr}{t:Tok}(ha:ρ[i]?=some a)(hs:Heap.SameBut a s.heap h'):Step own L ρ s own ρ { s with heap:=h',toks:=t } :=
 ⟨rfl,rfl,fun _ q=>q,fun _ _ q=>q,fun _ _ q=>q,fun _ _ q=>q,Nat.le_of_eq hs.1.symm,fun b _ e n=>(hs.2 b fun q=>n (q ▸ .tail _ (List.mem_of_getElem? ha))).trans e⟩
theorem Sat.alloc{X:O}{o:Obj}(S:Sat w own L ρ m σ h)(d:ODen w own ρ h X o)(hf:o.isFreed=false):Sat w (own++[h.objs.size]) L (ρ++[h.objs.size]) m (σ++[X]) (h.push o):=by
 have fresh:∀ a∈own,a≠h.objs.size:=fun a ha=>Nat.ne_of_lt (S.lt a ha);have ev:Ev own h (own++[h.objs.size]) (h.push o):=fun a oa e n=>⟨Heap.get?_push_of_some _ e,fun q=>by
  rcases List.mem_append.mp q with q | q
  ·exact n q
  ·rw [List.mem_singleton] at q;exact Nat.ne_of_lt (Heap.lt_size e) q⟩
 have r:∀ (i:Nat) (a:Addr),ρ[i]?=some a->(ρ++[h.objs.size])[i]?=some a:=fun i a e=>by
  refine rwp (List.getElem?_append_left (List.getElem?_eq_some_iff.mp e).1) ?_;exact e
 refine ⟨by simp [S.len],?_,?_,?_,?_,?_,S.fr.mono ev r fun _ e=>Heap.get?_push_of_some _ e⟩
 ·rw [List.nodup_append];refine ⟨S.nodup,List.nodup_cons.mpr ⟨List.not_mem_nil,List.nodup_nil⟩,fun a ha b hb=>?_⟩;rw [List.mem_singleton] at hb;subst hb;exact fresh a (S.sub a (.tail _ ha))
 ·intro q;rcases List.mem_append.mp q with q | q
  ·exact S.nl q
  ·rw [List.mem_singleton] at q;exact fresh L (S.sub L (.head _)) q
 ·intro a ha;rcases List.mem_cons.mp ha with q | q
  ·exact List.mem_append_left _ (S.sub a (q ▸ .head _))
  ·rcases List.mem_append.mp q with q | q
   ·exact List.mem_append_left _ (S.sub a (.tail _ q))
   ·exact List.mem_append_right _ q
 ·intro a ha;rw [Heap.size_push];rcases List.mem_append.mp ha with q | q
  ·exact Nat.lt_succ_of_lt (S.lt a q)
  ·rw [List.mem_singleton] at q;subst q;exact Nat.lt_succ_self _
 ·intro i Y a e1 e2;by_cases hi:i < σ.length
  ·rw [List.getElem?_append_left hi] at e1;rw [List.getElem?_append_left (S.len ▸ hi)] at e2;obtain ⟨oy,g,dy⟩:=S.objs i Y a e1 e2;exact ⟨oy,Heap.get?_push_of_some _ g,dy.mono ev r⟩
  ·have hi':i=σ.length:=by
    have:=(List.getElem?_eq_some_iff.mp e1).1;simp at this;lia
   subst hi';simp at e1;subst e1;rw [<- S.len] at e2;simp at e2;subst e2;exact ⟨o,Heap.get?_push_size _ hf,d.mono ev r⟩
theorem Step.alloc{o:Obj}{t:Tok}:Step own L ρ s (own++[s.heap.objs.size]) (ρ++[s.heap.objs.size]) { s with heap:=s.heap.push o,toks:=t } :=
 ⟨rfl,rfl,fun _ q=>List.mem_append_left _ q,fun a l n q=>by
  rcases List.mem_append.mp q with q | q
  ·exact n q
  ·rw [List.mem_singleton] at q;subst q;exact Nat.lt_irrefl _ l,
  fun i a e=>by refine rwp (List.getElem?_append_left (List.getElem?_eq_some_iff.mp e).1) ?_;exact e,
  fun a l n q=>by
  rcases List.mem_append.mp q with q | q
  ·exact n q
  ·rw [List.mem_singleton] at q;subst q;exact Nat.lt_irrefl _ l,
  by show _<=(s.heap.push o).objs.size;rw [Heap.size_push];lia,fun _ _ e _=>Heap.get?_push_of_some _ e⟩
noncomputable def updL:Loc->Str->V->Loc
 | [],x,v=>[(x,v)]
 | (y,u)::r,x,v=>if x==y then (y,v)::r else (y,u)::updL r x v
theorem lookup_updL(m:Loc)(x:Str)(v:V)(y:Str):(updL m x v).lookup y=if y=x then some v else m.lookup y:=by
 have ne:∀ {a b:Str},a≠b->(a==b)=false:=fun q=>beq_eq_false_iff_ne.mpr q;induction m with
 | nil =>
  simp only [updL,List.lookup_cons];by_cases h:y=x
  ·simp [h]
  ·rw [ne h,if_neg h]
 | cons p r ih =>
  obtain ⟨z,u⟩:=p;unfold updL;by_cases h:x=z
  ·subst h;simp only [beq_self_eq_true,if_true,List.lookup_cons];by_cases q:y=x
   ·simp [q]
   ·rw [ne q,if_neg q]
  ·rw [ne h];simp only [Bool.false_eq_true,if_false,List.lookup_cons,ih];by_cases q:y=z
   ·subst q;rw [if_neg (Ne.symm h),if_neg (Ne.symm h)]
   ·rw [ne q]
theorem Sat.store{x:Str}{V:V}{v:Value}{mm:Str->Option Value}(S:Sat w own L ρ m σ h)(hm:∀ x V,m.lookup x=some V->∃ v,mm x=some v/\Den w own ρ h V v)
  (hn:h'.Ns L (fun y=>if y=x then some v else mm y)) (hs:Heap.SameBut L h h') (d:Den w own ρ h V v):Sat w own L ρ (updL m x V) σ h':=by
 have hL:L∈own:=S.sub L (.head _);have ev:Ev own h own h':=Ev.upd hs hL;refine ⟨S.len,S.nodup,S.nl,S.sub,fun a q=>by refine rwp hs.1 ?_;exact S.lt a q,fun i X a e1 e2=>?_,_,hn,fun y U e=>?_⟩
 ·obtain ⟨o,g,d'⟩:=S.objs i X a e1 e2;exact ⟨o,(hs.2 a fun q=>S.nl (q ▸ List.mem_of_getElem? e2)).trans g,d'.mono ev (fun _ _ q=>q)⟩
 ·rw [lookup_updL] at e;by_cases q:y=x
  ·subst q;rw [if_pos rfl] at e;cases e;exact ⟨v,if_pos rfl,d.mono ev (fun _ _ q=>q)⟩
  ·rw [if_neg q] at e;obtain ⟨u,a,b⟩:=hm y U e;exact ⟨u,by refine rwp (if_neg q) ?_;exact a,b.mono ev (fun _ _ q=>q)⟩
theorem Step.store{t:Tok}(hs:Heap.SameBut L s.heap h'):Step own L ρ s own ρ { s with heap:=h',toks:=t } :=
 ⟨rfl,rfl,fun _ q=>q,fun _ _ q=>q,fun _ _ q=>q,fun _ _ q=>q,Nat.le_of_eq hs.1.symm,fun b _ e n=>(hs.2 b fun q=>n (q ▸ .head _)).trans e⟩
end
end Mine
end
section
set_option tactic.hygienic false
set_option backward.match.sparseCases false
namespace Mine
inductive Fl where
 | next | brk | cont | ret (v:V)
structure Fi where
 qual:Str
 params:List Str
 dfl:List V
 body:List Stmt
 scope:Scope
noncomputable abbrev xM:=List V->List O->(V->List O->Prop)->Prop
structure Tabs where
 fns:List (Addr×Fi)
 clss:List (Addr×(Addr×List (Str×Addr)×List Str))
 globs:List (Str×V)
 specs:List (Addr×xM)
 owned:List Nat
 unroll:List Nat
 views:List ((Nat×Nat)×Nat)
structure Fra where
 names:List (Str×NameKind)
 cells:List (Str×Nat)
 lam:Option Str
noncomputable def chk(b:Bool)(P:Prop):Prop:=match b with | true=>P | false=>False
theorem jM{b:Bool}{P:Prop}(h:chk b P):b=true/\P:=by induction b using Bool.casesOn <;> first | exact h.elim | exact ⟨rfl,h⟩
noncomputable def chk2(P Q:Prop):Prop:=P/\Q
noncomputable def ifB(b:Bool)(P Q:Prop):Prop:=match b with | true=>P | false=>Q
noncomputable def big:Nat:=16777216
noncomputable def isI:V->Bool
 | .int _=>true
 | _=>false
noncomputable def isNone:V->Bool
 | .none=>true
 | _=>false
noncomputable def zL:V->Option Int
 | .int i=>some i
 | _=>none
theorem zJ{a:V}{i:Int}(h:zL a=some i):a=.int i:=by
 induction a using Mine.V.casesOn with
 | int j=>exact congrArg V.int (Option.some.inj h)
 | _=>exact zK h
noncomputable def yS:V->Option (List UInt8)
 | .bytes b=>some b
 | _=>none
theorem zZ{a:V}{b:List UInt8}(h:yS a=some b):a=.bytes b:=by
 induction a using Mine.V.casesOn with
 | bytes j=>exact congrArg V.bytes (Option.some.inj h)
 | _=>exact zK h
noncomputable def asStr:V->Option Str
 | .str b=>some b
 | _=>none
theorem asStr_of{a:V}{b:Str}(h:asStr a=some b):a=.str b:=by
 induction a using Mine.V.casesOn with
 | str j=>exact congrArg V.str (Option.some.inj h)
 | _=>exact zK h
noncomputable def jO:V->Option (List V)
 | .tup b=>some b
 | _=>none
theorem xG{a:V}{b:List V}(h:jO a=some b):a=.tup b:=by
 induction a using Mine.V.casesOn with
 | tup j=>exact congrArg V.tup (Option.some.inj h)
 | _=>exact zK h
noncomputable def asTy:V->Option String
 | .ty b=>some b
 | _=>none
theorem asTy_of{a:V}{b:String}(h:asTy a=some b):a=.ty b:=by
 induction a using Mine.V.casesOn with
 | ty j=>exact congrArg V.ty (Option.some.inj h)
 | _=>exact zK h
noncomputable def kU:V->Option Nat
 | .loc b=>some b
 | _=>none
theorem yV{a:V}{b:Nat}(h:kU a=some b):a=.loc b:=by
 induction a using Mine.V.casesOn with
 | loc j=>exact congrArg V.loc (Option.some.inj h)
 | _=>exact zK h
noncomputable def asDct:V->Option (List V×List V)
 | .dct a b=>some (a,b)
 | _=>none
theorem asDct_of{a:V}{b:List V×List V}(h:asDct a=some b):a=.dct b.1 b.2:=by
 induction a using Mine.V.casesOn with
 | dct ks vs=>rw [<- Option.some.inj h]
 | _=>exact zK h
noncomputable def qE:V->Option (List V)
 | .lst b=>some b
 | _=>none
theorem jA{a:V}{b:List V}(h:qE a=some b):a=.lst b:=by
 induction a using Mine.V.casesOn with
 | lst j=>exact congrArg V.lst (Option.some.inj h)
 | _=>exact zK h
noncomputable def asBoo:V->Option Bool
 | .bool b=>some b
 | _=>none
theorem asBoo_of{a:V}{b:Bool}(h:asBoo a=some b):a=.bool b:=by
 induction a using Mine.V.casesOn with
 | bool j=>exact congrArg V.bool (Option.some.inj h)
 | _=>exact zK h
theorem xA{a:V}(h:isNone a=true):a=.none:=by
 induction a using Mine.V.casesOn with
 | none=>rfl
 | _=>exact fne h
theorem xQ{α β:Type}{o:Option α}{f:α->Option β}{r:β}{P:Prop}(h:o.bind f=some r)(k:∀ y,o=some y->f y=some r->P):P:=by
 induction o using Option.casesOn with
 | none=>exact zK h
 | some y=>exact k y rfl h
mutual
noncomputable def eqV:V->V->Option Bool
 | .int x,b=>(zL b).bind fun y=>some (decide (x=y))
 | .bytes x,b=>(yS b).bind fun y=>some (decide (x=y))
 | .str x,b=>(asStr b).bind fun y=>some (decide (x=y))
 | .bool x,b=>(asBoo b).bind fun y=>some (decide (x=y))
 | .none,b=>match isNone b with
  | true=>some true
  | false=>none
 | .tup xs,b=>(jO b).bind fun ys=>eqL xs ys
 | .lst xs,b=>(qE b).bind fun ys=>eqL xs ys
 | _,_=>none
noncomputable def eqL:List V->List V->Option Bool
 | [],b=>some b.isEmpty
 | x::xs,b=>match b with
  | []=>some false
  | y::ys=>(eqV x y).bind fun q=>match q with
   | true=>eqL xs ys
   | false=>some false
end
noncomputable def qT:Nat->V->Bool
 | 0,a=>(zL a).isSome
 | n+1,a=>match a with
  | .int _=>true
  | .tup vs=>vs.all (qT n)
  | .lst vs=>vs.all (qT n)
  | _=>false
noncomputable def zV(n:Nat)(vs:List V):Bool:=vs.all (qT n)
noncomputable def keyV:V->Bool
 | .str _=>true
 | .bytes _=>true
 | .tup l=>match l with
  | []=>false
  | a::r=>match r with
   | []=>false
   | b::z=>(yS a).isSome&&z.isEmpty&&match jO b with
    | some ns=>ns.all isI
    | none=>false
 | _=>false
noncomputable def fK(b:Bool)(r:Option Nat):Option (Option Nat):=match b with
 | true=>match r with
  | none=>some (some 0)
  | some _=>none
 | false=>some (r.map (·+1))
noncomputable def yL:List V->V->Option (Option Nat)
 | [],x=>match keyV x with
  | true=>some none
  | false=>none
 | k::ks,x=>match keyV k with
  | true=>(eqV k x).bind fun b=>(yL ks x).bind (fK b)
  | false=>none
noncomputable def distK:List V->List V->Prop
 | _,[]=>True
 | acc,k::r=>yL acc k=some none/\distK (acc++[k]) r
inductive BinP(Q:V->Prop):Operator->V->V->Prop
 | c0 {x} {y} (h:Q (.int (x+y))):BinP Q .Add (.int x) (.int y)
 | c1 {x} {y} (h:Q (.int (x - y))):BinP Q .Sub (.int x) (.int y)
 | c2 {x} {y} (h:((-(2 ^ 64) < x/\x < 2 ^ 64)\/(-(2 ^ 64) < y/\y < 2 ^ 64))/\Q (.int (x*y))):BinP Q .Mult (.int x) (.int y)
 | c3 {x} {y} (h:0 < y/\y < 1000000000/\Q (.int (x / y))):BinP Q .FloorDiv (.int x) (.int y)
 | c4 {x} {y} (h:0 < y/\Q (.int (x%y))):BinP Q .Mod (.int x) (.int y)
 | c5 {x} {y} (h:x=10/\y=40/\Q (.int 10000000000000000000000000000000000000000)):BinP Q .Pow (.int x) (.int y)
 | c6 {x} {y} (h:x.length+y.length<=big/\Q (.bytes (x++y))):BinP Q .Add (.bytes x) (.bytes y)
 | c7 {x} {k} (h:x≠[]/\x.length<=16/\0<=k/\k<=1000000/\Q (.bytes (List.replicate k.toNat x).flatten)):BinP Q .Mult (.bytes x) (.int k)
 | c8 {x} {y} (h:x.length+y.length<=big/\Q (.lst (x++y))):BinP Q .Add (.lst x) (.lst y)
 | c9 {x} {k} (h:x≠[]/\0<=k/\k<=1000000/\x.length*k.toNat<=big/\Q (.lst (List.replicate k.toNat x).flatten)):BinP Q .Mult (.lst x) (.int k)
noncomputable def oLst:O->Option (List V)
 | .list vs=>some vs
 | _=>none
theorem oLst_of{a:O}{b:List V}(h:oLst a=some b):a=.list b:=by
 induction a using Mine.O.casesOn with
 | list j=>exact congrArg O.list (Option.some.inj h)
 | _=>exact zK h
noncomputable def oDct:O->Option (List V×List V)
 | .dict ks vs=>some (ks,vs)
 | _=>none
theorem oDct_of{a:O}{b:List V×List V}(h:oDct a=some b):a=.dict b.1 b.2:=by
 induction a using Mine.O.casesOn with
 | dict ks vs=>rw [<- Option.some.inj h]
 | _=>exact zK h
noncomputable def oBar:O->Option (List UInt8)
 | .barr b=>some b
 | _=>none
theorem oBar_of{a:O}{b:List UInt8}(h:oBar a=some b):a=.barr b:=by
 induction a using Mine.O.casesOn with
 | barr j=>exact congrArg O.barr (Option.some.inj h)
 | _=>exact zK h
noncomputable def oIns:O->Option (Addr×Nat)
 | .inst c j=>some (c,j)
 | _=>none
theorem oIns_of{a:O}{b:Addr×Nat}(h:oIns a=some b):a=.inst b.1 b.2:=by
 induction a using Mine.O.casesOn with
 | inst ks vs=>rw [<- Option.some.inj h]
 | _=>exact zK h
noncomputable def oAtt:O->Option (List Str×List V)
 | .attrs ks vs=>some (ks,vs)
 | _=>none
theorem oAtt_of{a:O}{b:List Str×List V}(h:oAtt a=some b):a=.attrs b.1 b.2:=by
 induction a using Mine.O.casesOn with
 | attrs ks vs=>rw [<- Option.some.inj h]
 | _=>exact zK h
noncomputable def yU(σ:List O):V->Option (List V)
 | .lst vs=>some vs
 | .loc i=>σ[i]?.bind oLst
 | _=>none
noncomputable def qC(σ:List O):V->Option (List V×List V)
 | .dct ks vs=>some (ks,vs)
 | .loc i=>σ[i]?.bind oDct
 | _=>none
inductive EqP(σ:List O)(Q:Bool->Prop):V->V->Prop
 | c0 {x y} (h:Q (decide (x=y))):EqP σ Q (.int x) (.int y)
 | c1 {x y} (h:Q (decide (x=y))):EqP σ Q (.bytes x) (.bytes y)
 | c2 {x y} (h:Q (decide (x=y))):EqP σ Q (.str x) (.str y)
 | c3 {xs ys r} (p1:zV 9 xs=true) (p2:zV 9 ys=true) (e:eqL xs ys=some r) (q:Q r):EqP σ Q (.tup xs) (.tup ys)
 | c4 {a b xs ys r} (h1:yU σ a=some xs) (h2:yU σ b=some ys) (p1:zV 9 xs=true) (p2:zV 9 ys=true) (e:eqL xs ys=some r) (q:Q r):EqP σ Q a b
noncomputable abbrev eqP(σ:List O)(a b:V)(Q:Bool->Prop):Prop:=EqP σ Q a b
inductive InP(σ:List O)(Q:Bool->Prop):V->V->Prop
 | c0 {x b} (h1:0<=x) (h2:x < 256) (q:Q (b.any fun c=>decide ((c.toNat:Int)=x))):InP σ Q (.int x) (.bytes b)
 | c1 {x vs} (bs:List (List UInt8)) (e:vs=bs.map V.bytes) (q:Q (bs.any fun y=>decide (y=x))):InP σ Q (.bytes x) (.tup vs)
 | c2 {c r} (q:Q false):InP σ Q (.bytes (c::r)) (.bytes [])
 | c3 {a b ks vs r} (h1:qC σ b=some (ks,vs)) (h2:yL ks a=some r) (q:Q r.isSome):InP σ Q a b
noncomputable abbrev inP(σ:List O)(a b:V)(Q:Bool->Prop):Prop:=InP σ Q a b
inductive CmpP(Q:Bool->Prop)(σ:List O):CmpOp->V->V->Prop
 | c0 {x y} (h:Q (decide (x < y))):CmpP Q σ .Lt (.int x) (.int y)
 | c1 {x y} (h:Q (decide (x<=y))):CmpP Q σ .LtE (.int x) (.int y)
 | c2 {x y} (h:Q (decide (x > y))):CmpP Q σ .Gt (.int x) (.int y)
 | c3 {x y} (h:Q (decide (x>=y))):CmpP Q σ .GtE (.int x) (.int y)
 | c4 {a b c d} (h:Q (if a=c then decide (b < d) else decide (a < c))):CmpP Q σ .Lt (.tup [.int a,.int b]) (.tup [.int c,.int d])
 | c5 {a b} (h:eqP σ a b Q):CmpP Q σ .Eq a b
 | c6 {a b} (h:eqP σ a b fun r=>Q (!r)):CmpP Q σ .NotEq a b
 | c7 {a} (h:Q (isNone a)):CmpP Q σ .Is a .none
 | c8 {a} (h:Q (!isNone a)):CmpP Q σ .IsNot a .none
 | c9 {a b} (h:inP σ a b Q):CmpP Q σ .In a b
 | c10 {a b} (h:inP σ a b fun r=>Q (!r)):CmpP Q σ .NotIn a b
noncomputable def vF(a:V)(Q:Bool->Prop):Prop:=match a with
 | .bool b=>Q b
 | _=>False
noncomputable def handV:V->Bool
 | .bi _=>false
 | _=>true
noncomputable def attrOf(σ:List O)(T:Tabs)(a:V)(x:Str):Option V:=match a with
 | .loc i=>(σ[i]?.bind oIns).bind fun cj=>(σ[cj.2]?.bind oAtt).bind fun nv=>(T.clss.lookup cj.1).bind fun ci=>if ci.2.2.contains x then ((nv.1.zip nv.2).lookup x).filter handV else none
 | .obj c ns vs=>(T.clss.lookup c).bind fun ci=>if ci.2.2.contains x then ((ns.zip vs).lookup x).filter handV else none
 | _=>none
noncomputable def putA:List Str->List V->Str->V->List Str×List V
 | n::ns,v::vs,x,u=>if n==x then (n::ns,u::vs) else ((n::(putA ns vs x u).1),(v::(putA ns vs x u).2))
 | _,_,x,u=>([x],[u])
inductive SetAP(σ:List O)(T:Tabs)(x:Str)(u:V)(Q:List O->Prop):V->Prop
 | mk {i c j ns vs ci} (hi:σ[i]?=some (.inst c j)) (hj:σ[j]?=some (.attrs ns vs)) (hc:T.clss.lookup c=some ci) (h1:ci.2.2.contains x=true) (h2:ns.length < 1000) (q:Q (σ.set j (.attrs (putA ns vs x u).1 (putA ns vs x u).2))):SetAP σ T x u Q (.loc i)
noncomputable abbrev setAttrP(σ:List O)(T:Tabs)(a:V)(x:Str)(u:V)(Q:List O->Prop):Prop:=SetAP σ T x u Q a
noncomputable def idx(n:Nat)(i:Int):Int:=if i < 0 then i+n else i
noncomputable def vB(n:Nat)(i:Int):Nat:=if i < 0 then (i+n).toNat else min i.toNat n
inductive SubP(σ:List O)(Q:V->Prop):V->V->Prop
 | c0 {b i c} (h:0<=i) (h1:b[i.toNat]?=some c) (h2:b.length<=1000000000) (q:Q (.int (c.toNat:Nat))):SubP σ Q (.bytes b) (.int i)
 | c1 {vs i v} (h:0<=i) (h1:i < 1000000000) (h2:vs[i.toNat]?=some v) (q:Q v):SubP σ Q (.tup vs) (.int i)
 | c2 {a i vs v} (h:yU σ a=some vs) (h1:(vs.length:Int) < 2 ^ 62) (h2:0<=idx vs.length i) (h3:vs[(idx vs.length i).toNat]?=some v) (q:Q v):SubP σ Q a (.int i)
 | c3 {a k ks vs n v} (h:qC σ a=some (ks,vs)) (h1:yL ks k=some (some n)) (h2:vs[n]?=some v) (q:Q v):SubP σ Q a k
noncomputable abbrev subP(σ:List O)(a i:V)(Q:V->Prop):Prop:=SubP σ Q a i
noncomputable def putK(ks vs:List V)(k u:V):Option Nat->O
 | some n=>.dict ks (vs.set n u)
 | none=>.dict (ks++[k]) (vs++[u])
inductive SetIP(σ:List O)(u:V)(Q:List O->Prop):V->V->Prop
 | c0 {l i vs} (h:σ[l]?=some (.list vs)) (h1:(vs.length:Int) < 2 ^ 62) (h2:0<=idx vs.length i) (h3:idx vs.length i < vs.length) (q:Q (σ.set l (.list (vs.set (idx vs.length i).toNat u)))):SetIP σ u Q (.loc l) (.int i)
 | c1 {l k ks vs r} (h:σ[l]?=some (.dict ks vs)) (h1:yL ks k=some r) (h2:ks.length < 10000) (q:Q (σ.set l (putK ks vs k u r))):SetIP σ u Q (.loc l) k
noncomputable abbrev setItemP(σ:List O)(a i u:V)(Q:List O->Prop):Prop:=SetIP σ u Q a i
noncomputable def bndOf:V->Option (Option Int)
 | .none=>some none
 | .int i=>some (some i)
 | _=>none
noncomputable def cut{α:Type}(xs:List α)(lo hi:Option Int):List α :=
 (xs.take (match hi with | some i=>vB xs.length i | none=>xs.length)).drop (match lo with | some i=>vB xs.length i | none=>0)
noncomputable def newList(ow:Bool)(vs:List V)(σ:List O)(Q:V->List O->Prop):Prop:=match ow with
 | true=>Q (.loc σ.length) (σ++[.list vs])
 | false=>Q (.lst vs) σ
noncomputable def newBarr(ow:Bool)(b:List UInt8)(σ:List O)(Q:V->List O->Prop):Prop:=match ow with
 | true=>Q (.loc σ.length) (σ++[.barr b])
 | false=>Q (.barr b) σ
noncomputable def newDict(ow:Bool)(ks vs:List V)(σ:List O)(Q:V->List O->Prop):Prop:=match ow with
 | true=>Q (.loc σ.length) (σ++[.dict ks vs])
 | false=>Q (.dct ks vs) σ
noncomputable def barOf(σ:List O):V->Option (List UInt8)
 | .barr b=>some b
 | .loc i=>σ[i]?.bind oBar
 | _=>none
inductive SliP(ow:Bool)(σ:List O)(Q:V->List O->Prop)(lo hi:V):V->V->Prop
 | c0 {b l h} (e1:bndOf lo=some l) (e2:bndOf hi=some h) (h1:b.length<=big) (q:Q (.bytes (cut b l h)) σ):SliP ow σ Q lo hi (.bytes b) .none
 | c1 {a vs l h} (e:yU σ a=some vs) (e1:bndOf lo=some l) (e2:bndOf hi=some h) (h1:vs.length<=big) (q:newList ow (cut vs l h) σ Q):SliP ow σ Q lo hi a .none
 | c2 {a vs} (e:yU σ a=some vs) (e1:isNone lo=true) (e2:isNone hi=true) (h1:vs.length<=big) (q:newList ow vs.reverse σ Q):SliP ow σ Q lo hi a (.int (-1))
 | c3 {a b} (e:barOf σ a=some b) (e1:isNone lo=true) (e2:isNone hi=true) (h1:b.length<=big) (q:newBarr ow b.reverse σ Q):SliP ow σ Q lo hi a (.int (-1))
noncomputable abbrev sliceP(ow:Bool)(σ:List O)(a lo hi st:V)(Q:V->List O->Prop):Prop:=SliP ow σ Q lo hi a st
noncomputable def oLen:O->Option Nat
 | .list vs=>some vs.length
 | .barr b=>some b.length
 | _=>none
noncomputable def lenOf(σ:List O):V->Option Nat
 | .bytes b=>some b.length
 | .tup vs=>some vs.length
 | .lst vs=>some vs.length
 | .barr b=>some b.length
 | .loc i=>σ[i]?.bind oLen
 | _=>none
noncomputable def isInt:V->Option Bool
 | .int _=>some true
 | .bytes _=>some false
 | .str _=>some false
 | .none=>some false
 | _=>none
noncomputable def isByt:V->Option Bool
 | .int _=>some false
 | .bytes _=>some true
 | .str _=>some false
 | .none=>some false
 | _=>none
noncomputable def isOf(t:String)(a:V):Option Bool:=match t == "int" with
 | true=>isInt a
 | false=>match t == "bytes" with
  | true=>isByt a
  | false=>none
noncomputable def oMb(x:Str):O->Option String
 | .list _=>if x == "append" then some "list.append" else if x == "extend" then some "list.extend" else if x == "pop" then some "list.pop" else none
 | .barr _=>if x == "append" then some "bytearray.append" else if x == "extend" then some "bytearray.extend" else none
 | _=>none
noncomputable def mbId(σ:List O)(a:V)(x:Str):Option String:=match a with
 | .loc i=>σ[i]?.bind (oMb x)
 | .dct _ _=>if x == "get" then some "dict.get" else none
 | .bytes _=>if x == "join" then some "bytes.join" else none
 | _=>none
noncomputable def yT(s:List UInt8):List (List UInt8)->List UInt8
 | []=>[]
 | b::r=>b++r.flatMap fun c=>s++c
noncomputable def isLst:V->Bool
 | .lst _=>true
 | _=>false
noncomputable def xV(c:Prop)[Decidable c](P:Prop):Prop:=chk (decide c) P
theorem zU{c:Prop}{_:Decidable c}{P:Prop}(h:xV c P):c/\P:=let ⟨a,b⟩:=jM h;⟨of_decide_eq_true a,b⟩
theorem xD{b:Bool}{P:Prop}(h:b=true)(p:P):chk b P:=by subst h;exact p
theorem zC{c:Prop}{_:Decidable c}{P:Prop}(h:c)(p:P):xV c P:=xD (decide_eq_true h) p
noncomputable def zB{α:Type}(o:Option α)(P:α->Prop):Prop:=match o with
 | some a=>P a
 | none=>False
theorem zA{α:Type}{o:Option α}{P:α->Prop}(h:zB o P):∃ a,o=some a/\P a:=by
 induction o using Option.casesOn with
 | none=>exact h.elim
 | some a=>exact ⟨a,rfl,h⟩
theorem zD{α:Type}{o:Option α}{a:α}{P:α->Prop}(h:o=some a)(p:P a):zB o P:=by subst h;exact p
theorem len62{n:Nat}(h:n<=big):(n:Int) < 2 ^ 62:=by have:n<=16777216:=h;lia
noncomputable def noA{α:Type}(as:List α)(P:Prop):Prop:=match as with
 | []=>P
 | _=>False
theorem noA_of{α:Type}{as:List α}{P:Prop}(h:noA as P):as=[]/\P:=by
 induction as using List.casesOn with
 | nil=>exact ⟨rfl,h⟩
 | cons=>exact h.elim
noncomputable def jY{α:Type}(as:List α)(P:α->Prop):Prop:=match as with
 | []=>False
 | a::r=>noA r (P a)
theorem yC{α:Type}{as:List α}{P:α->Prop}(h:jY as P):∃ a,as=[a]/\P a:=by
 induction as using List.casesOn with
 | nil=>exact h.elim
 | cons a r=>obtain ⟨e,p⟩:=noA_of h;exact ⟨a,e ▸ rfl,p⟩
noncomputable def twoA{α:Type}(as:List α)(P:α->α->Prop):Prop:=match as with
 | []=>False
 | a::r=>jY r (P a)
theorem xI{α:Type}{as:List α}{P:α->α->Prop}(h:twoA as P):∃ a b,as=[a,b]/\P a b:=by
 induction as using List.casesOn with
 | nil=>exact h.elim
 | cons a r=>obtain ⟨b,e,p⟩:=yC h;exact ⟨a,b,e ▸ rfl,p⟩
noncomputable def consA{α:Type}(as:List α)(P:α->List α->Prop):Prop:=match as with
 | []=>False
 | a::r=>P a r
theorem consA_of{α:Type}{as:List α}{P:α->List α->Prop}(h:consA as P):∃ a r,as=a::r/\P a r:=by
 induction as using List.casesOn with
 | nil=>exact h.elim
 | cons a r=>exact ⟨a,r,rfl,h⟩
noncomputable def qF{α:Type}(as:List α)(P:α->α->α->Prop):Prop:=match as with
 | []=>False
 | a::r=>twoA r (P a)
theorem xT{α:Type}{as:List α}{P:α->α->α->Prop}(h:qF as P):∃ a b c,as=[a,b,c]/\P a b c:=by
 induction as using List.casesOn with
 | nil=>exact h.elim
 | cons a r=>obtain ⟨b,c,e,p⟩:=xI h;exact ⟨a,b,c,e ▸ rfl,p⟩
noncomputable def binQ(op:Operator)(a b:V)(Q:V->Prop):Prop:=match op with
 | .Add=>match zL a with
  | some x=>zB (zL b) fun y=>Q (.int (x+y))
  | none=>match yS a with
   | some x=>zB (yS b) fun y=>xV (x.length+y.length<=big) (Q (.bytes (x++y)))
   | none=>zB (qE a) fun x=>zB (qE b) fun y=>xV (x.length+y.length<=big) (Q (.lst (x++y)))
 | .Sub=>zB (zL a) fun x=>zB (zL b) fun y=>Q (.int (x - y))
 | .Mult=>zB (zL b) fun y=>match zL a with
  | some x=>xV ((-18446744073709551616 < x/\x < 18446744073709551616)\/(-18446744073709551616 < y/\y < 18446744073709551616)) (Q (.int (x*y)))
  | none=>match yS a with
   | some x=>xV (x.length≠0/\x.length<=16/\0<=y/\y<=1000000) (Q (.bytes (List.replicate y.toNat x).flatten))
   | none=>zB (qE a) fun x=>xV (x.length≠0/\0<=y/\y<=1000000/\x.length*y.toNat<=big) (Q (.lst (List.replicate y.toNat x).flatten))
 | .FloorDiv=>zB (zL a) fun x=>zB (zL b) fun y=>xV (0 < y/\y < 1000000000) (Q (.int (x / y)))
 | .Mod=>zB (zL a) fun x=>zB (zL b) fun y=>xV (0 < y) (Q (.int (x%y)))
 | .Pow=>zB (zL a) fun x=>zB (zL b) fun y=>xV (x=10/\y=40) (Q (.int 10000000000000000000000000000000000000000))
 | _=>False
theorem ne_of_len{α:Type}{x:List α}(h:x.length≠0):x≠[]:=fun q=>h (by refine rwp q ?_;rfl)
theorem kZ{a b:V}{P:Int->Int->Prop}(h:zB (zL a) fun x=>zB (zL b) fun y=>P x y):∃ x y,a=.int x/\b=.int y/\P x y:=by
 apply gk;intro J;obtain ⟨x,e,h⟩:=zA h;obtain ⟨y,e',h⟩:=zA h;apply J;clear J;exact ⟨x,y,zJ e,zJ e',h⟩
theorem three{a:V}{P:Int->Prop}{R:List UInt8->Prop}{S:List V->Prop}(h:match zL a with
  | some x=>P x
  | none=>match yS a with
   | some x=>R x
   | none=>zB (qE a) S):(∃ x,a=.int x/\P x)\/(∃ x,a=.bytes x/\R x)\/∃ x,a=.lst x/\S x:=by
 cases e:zL a with
 | some x=>rw [e] at h;exact .inl ⟨x,zJ e,h⟩
 | none =>
  rw [e] at h;cases e2:yS a with
  | some x=>rw [e2] at h;exact .inr (.inl ⟨x,zZ e2,h⟩)
  | none=>rw [e2] at h;obtain ⟨x,e3,q⟩:=zA h;exact .inr (.inr ⟨x,jA e3,q⟩)
theorem binQ_P{op:Operator}{a b:V}{Q:V->Prop}(h:binQ op a b Q):BinP Q op a b:=by
 induction op using PySem.Operator.casesOn with
 | Add =>
  rcases three h with ⟨x,rfl,q⟩ | ⟨x,rfl,q⟩ | ⟨x,rfl,q⟩
  ·obtain ⟨y,e,q⟩:=zA q;cases zJ e;exact .c0 q
  ·obtain ⟨y,e,q⟩:=zA q;cases zZ e;exact .c6 (zU q)
  ·obtain ⟨y,e,q⟩:=zA q;cases jA e;exact .c8 (zU q)
 | Sub=>obtain ⟨x,y,rfl,rfl,q⟩:=kZ h;exact .c1 q
 | Mult =>
  obtain ⟨y,e,h⟩:=zA h;cases zJ e;rcases three h with ⟨x,rfl,q⟩ | ⟨x,rfl,q⟩ | ⟨x,rfl,q⟩
  ·exact .c2 (zU q)
  ·obtain ⟨⟨h1,h2,h3,h4⟩,q⟩:=zU q;exact .c7 ⟨ne_of_len h1,h2,h3,h4,q⟩
  ·obtain ⟨⟨h1,h2,h3,h4⟩,q⟩:=zU q;exact .c9 ⟨ne_of_len h1,h2,h3,h4,q⟩
 | FloorDiv=>obtain ⟨x,y,rfl,rfl,q⟩:=kZ h;obtain ⟨⟨h1,h2⟩,q⟩:=zU q;exact .c3 ⟨h1,h2,q⟩
 | Mod=>obtain ⟨x,y,rfl,rfl,q⟩:=kZ h;exact .c4 (zU q)
 | Pow=>obtain ⟨x,y,rfl,rfl,q⟩:=kZ h;obtain ⟨⟨h1,h2⟩,q⟩:=zU q;exact .c5 ⟨h1,h2,q⟩
 | _=>exact h.elim
noncomputable def eqQ(σ:List O)(a b:V)(Q:Bool->Prop):Prop:=match a with
 | .int x=>zB (zL b) fun y=>Q (decide (x=y))
 | .bytes x=>zB (yS b) fun y=>Q (decide (x=y))
 | .str x=>zB (asStr b) fun y=>Q (x==y)
 | .tup xs=>zB (jO b) fun ys=>chk (zV 9 xs&&zV 9 ys) (zB (eqL xs ys) Q)
 | a=>zB (yU σ a) fun xs=>zB (yU σ b) fun ys=>chk (zV 9 xs&&zV 9 ys) (zB (eqL xs ys) Q)
theorem eqQ_gen{σ:List O}{a b:V}{Q:Bool->Prop}(h:zB (yU σ a) fun xs=>zB (yU σ b) fun ys=>chk (zV 9 xs&&zV 9 ys) (zB (eqL xs ys) Q)):eqP σ a b Q:=by
 apply gk;intro J;obtain ⟨xs,e1,h⟩:=zA h;obtain ⟨ys,e2,h⟩:=zA h;obtain ⟨h1,h2⟩:=jM h;obtain ⟨r,h3,q⟩:=zA h2;apply J;clear J;exact .c4 e1 e2 (Bool.and_eq_true_iff.mp h1).1 (Bool.and_eq_true_iff.mp h1).2 h3 q
theorem eqQ_P{σ:List O}{a b:V}{Q:Bool->Prop}(h:eqQ σ a b Q):eqP σ a b Q:=by
 induction a using Mine.V.casesOn with
 | int x=>obtain ⟨y,e,q⟩:=zA h;refine rwp (zJ e) ?_;exact .c0 q
 | bytes x=>obtain ⟨y,e,q⟩:=zA h;refine rwp (zZ e) ?_;exact .c1 q
 | str x=>obtain ⟨y,e,q⟩:=zA h;refine rwp (asStr_of e) ?_;exact .c2 (by refine rwp (show decide (x=y)=(x==y) by rw [Bool.eq_iff_iff];simp) ?_;exact q)
 | tup xs =>
  apply gk;intro J;obtain ⟨ys,e,h⟩:=zA h;obtain ⟨h1,h2⟩:=jM h;obtain ⟨r,h3,q⟩:=zA h2;apply J;clear J;refine rwp (xG e) ?_;exact .c3 (Bool.and_eq_true_iff.mp h1).1 (Bool.and_eq_true_iff.mp h1).2 h3 q
 | _=>exact eqQ_gen h
noncomputable def byOf:List V->Option (List (List UInt8))
 | []=>some []
 | a::r=>(yS a).bind fun b=>(byOf r).map (b::·)
theorem byOf_spec:∀ {l:List V} {bs:List (List UInt8)},byOf l=some bs->l=bs.map V.bytes:=fun {l}=>by
 induction l with
 | nil=>intro bs h;refine rwp (Option.some.inj h).symm ?_;rfl
 | cons v r ih =>
  intro bs h;refine xQ h fun b e h=>?_;obtain ⟨bs',h1,h2⟩:=Option.map_eq_some_iff.mp h;refine rwp h2.symm ?_;refine rwp (ih h1) ?_;refine rwp (zZ e) ?_;rfl
noncomputable def inQ(σ:List O)(a b:V)(Q:Bool->Prop):Prop:=match a with
 | .int x=>match yS b with
  | some b=>xV (0<=x/\x < 256) (Q (b.any fun c=>decide ((c.toNat:Int)=x)))
  | none=>zB (qC σ b) fun d=>zB (yL d.1 (.int x)) fun r=>Q r.isSome
 | .bytes x=>match jO b with
  | some vs=>zB (byOf vs) fun bs=>Q (bs.any fun y=>decide (y=x))
  | none=>match yS b with
   | some b=>chk (!x.isEmpty&&b.isEmpty) (Q false)
   | none=>zB (qC σ b) fun d=>zB (yL d.1 (.bytes x)) fun r=>Q r.isSome
 | a=>zB (qC σ b) fun d=>zB (yL d.1 a) fun r=>Q r.isSome
theorem inQ_gen{σ:List O}{a b:V}{Q:Bool->Prop}(h:zB (qC σ b) fun d=>zB (yL d.1 a) fun r=>Q r.isSome):inP σ a b Q:=by
 apply gk;intro J;obtain ⟨d,e1,h⟩:=zA h;obtain ⟨r,e2,q⟩:=zA h;apply J;clear J;exact .c3 e1 e2 q
theorem inQ_P{σ:List O}{a b:V}{Q:Bool->Prop}(h:inQ σ a b Q):inP σ a b Q:=by
 induction a using Mine.V.casesOn with
 | int x =>
  unfold inQ at h;cases e:yS b with
  | some c=>rw [e] at h;obtain ⟨⟨h1,h2⟩,q⟩:=zU h;refine rwp (zZ e) ?_;exact .c0 h1 h2 q
  | none=>rw [e] at h;exact inQ_gen h
 | bytes x =>
  unfold inQ at h;cases e:jO b with
  | some vs=>rw [e] at h;obtain ⟨bs,e2,q⟩:=zA h;refine rwp (xG e) ?_;exact .c1 bs (byOf_spec e2) q
  | none =>
   rw [e] at h;cases e2:yS b with
   | some c =>
    rw [e2] at h;obtain ⟨h1,q⟩:=jM h;refine rwp (zZ e2) ?_;induction x using List.casesOn with
    | nil=>exact fne h1
    | cons c0 r=>induction c using List.casesOn with
     | nil=>exact .c2 q
     | cons c1 r1=>exact fne h1
   | none=>rw [e2] at h;exact inQ_gen h
 | _=>exact inQ_gen h
noncomputable def pairP(a:V)(P:Int->Int->Prop):Prop:=zB (jO a) fun l=>twoA l fun x y=>zB (zL x) fun i=>zB (zL y) fun j=>P i j
theorem pairP_of{a:V}{P:Int->Int->Prop}(h:pairP a P):∃ i j,a=.tup [.int i,.int j]/\P i j:=by
 apply gk;intro J;obtain ⟨l,e,h⟩:=zA h;obtain ⟨x,y,e2,h⟩:=xI h;obtain ⟨i,j,e3,e4,h⟩:=kZ h;apply J;clear J;exact ⟨i,j,by rw [xG e,e2,e3,e4],h⟩
noncomputable def cmpQ(op:CmpOp)(σ:List O)(a b:V)(Q:Bool->Prop):Prop:=match op with
 | .Lt=>match zL a with
  | some x=>zB (zL b) fun y=>Q (decide (x < y))
  | none=>pairP a fun i j=>pairP b fun k l=>Q (if i=k then decide (j < l) else decide (i < k))
 | .LtE=>zB (zL a) fun x=>zB (zL b) fun y=>Q (decide (x<=y))
 | .Gt=>zB (zL a) fun x=>zB (zL b) fun y=>Q (decide (x > y))
 | .GtE=>zB (zL a) fun x=>zB (zL b) fun y=>Q (decide (x>=y))
 | .Eq=>eqQ σ a b Q
 | .NotEq=>eqQ σ a b fun r=>Q (!r)
 | .Is=>chk (isNone b) (Q (isNone a))
 | .IsNot=>chk (isNone b) (Q (!isNone a))
 | .In=>inQ σ a b Q
 | .NotIn=>inQ σ a b fun r=>Q (!r)
theorem cmpQ_P{op:CmpOp}{σ:List O}{a b:V}{Q:Bool->Prop}(h:cmpQ op σ a b Q):CmpP Q σ op a b:=by
 induction op using PySem.CmpOp.casesOn with
 | Lt =>
  have h:(match zL a with
   | some x=>zB (zL b) fun y=>Q (decide (x < y))
   | none=>pairP a fun i j=>pairP b fun k l=>Q (if i=k then decide (j < l) else decide (i < k))):=h
  cases e:zL a with
  | some x=>rw [e] at h;obtain ⟨y,e2,q⟩:=zA h;refine rwp (zJ e) ?_;refine rwp (zJ e2) ?_;exact .c0 q
  | none =>
   rw [e] at h;apply gk;intro J;obtain ⟨i,j,e1,h⟩:=pairP_of h;obtain ⟨k,l,e2,h⟩:=pairP_of h;apply J;clear J;refine rwp e1 ?_;refine rwp e2 ?_;exact .c4 h
 | LtE=>obtain ⟨x,y,rfl,rfl,q⟩:=kZ h;exact .c1 q
 | Gt=>obtain ⟨x,y,rfl,rfl,q⟩:=kZ h;exact .c2 q
 | GtE=>obtain ⟨x,y,rfl,rfl,q⟩:=kZ h;exact .c3 q
 | Eq=>exact .c5 (eqQ_P h)
 | NotEq=>exact .c6 (eqQ_P h)
 | Is=>obtain ⟨e,q⟩:=jM h;refine rwp (xA e) ?_;exact .c7 q
 | IsNot=>obtain ⟨e,q⟩:=jM h;refine rwp (xA e) ?_;exact .c8 q
 | In=>exact .c9 (inQ_P h)
 | NotIn=>exact .c10 (inQ_P h)
noncomputable def subQ(σ:List O)(a i:V)(Q:V->Prop):Prop:=match zL i with
 | some i=>match a with
  | .bytes b=>xV (0<=i/\b.length<=1000000000) (zB b[i.toNat]? fun c=>Q (.int (c.toNat:Nat)))
  | .tup vs=>xV (0<=i/\i < 1000000000) (zB vs[i.toNat]? Q)
  | a=>zB (yU σ a) fun vs=>xV (vs.length<=big/\0<=idx vs.length i) (zB vs[(idx vs.length i).toNat]? Q)
 | none=>zB (qC σ a) fun d=>zB (yL d.1 i) fun r=>zB r fun n=>zB d.2[n]? Q
theorem subQ_P{σ:List O}{a i:V}{Q:V->Prop}(h:subQ σ a i Q):subP σ a i Q:=by
 unfold subQ at h;cases e:zL i with
 | some i =>
  rw [e] at h;refine rwp (zJ e) ?_;have gen:(zB (yU σ a) fun vs=>xV (vs.length<=big/\0<=idx vs.length i) (zB vs[(idx vs.length i).toNat]? Q))->subP σ a (.int i) Q:=fun h=>by
   apply gk;intro J;obtain ⟨vs,e1,h⟩:=zA h;have h':=zU h;obtain ⟨c,e,q⟩:=zA h'.2;apply J;clear J;exact .c2 e1 (len62 h'.1.1) h'.1.2 e q
  induction a using Mine.V.casesOn with
  | bytes b=>obtain ⟨⟨h1,h2⟩,h⟩:=zU h;obtain ⟨c,e,q⟩:=zA h;exact .c0 h1 e h2 q
  | tup vs=>obtain ⟨⟨h1,h2⟩,h⟩:=zU h;obtain ⟨c,e,q⟩:=zA h;exact .c1 h1 h2 e q
  | _=>exact gen h
 | none =>
  rw [e] at h;apply gk;intro J;obtain ⟨d,e1,h⟩:=zA h;obtain ⟨r,e2,h⟩:=zA h;obtain ⟨n,e3,h⟩:=zA h;obtain ⟨v,e4,q⟩:=zA h;apply J;clear J;exact .c3 e1 (e2.trans (congrArg some e3)) e4 q
theorem subP_mono{σ:List O}{a i:V}{Q Q':V->Prop}(hq:∀ c,Q c->Q' c)(h:subP σ a i Q):subP σ a i Q':=by
 cases h with
 | c0 h1 h2 h3 h4=>exact .c0 h1 h2 h3 (hq _ h4)
 | c1 h1 h2 h3 h4=>exact .c1 h1 h2 h3 (hq _ h4)
 | c2 h1 h2 h3 h4 h5=>exact .c2 h1 h2 h3 h4 (hq _ h5)
 | c3 h1 h2 h3 h4=>exact .c3 h1 h2 h3 (hq _ h4)
noncomputable def viewP(k:Nat)(v:V)(Q:V->Prop):Prop:=match k with
 | 1=>∃ cs w p,v=.tup [.tup cs,.int w,.int p]/\Q (.tup [.tup cs,.int w,.int p])
 | 2=>∃ c n,v=.tup [.int c,.int n]/\Q (.tup [.int c,.int n])
 | 3=>∃ a n,v=.tup [a,.int n]/\Q (.tup [a,.int n])
 | 4=>∃ b a,v=.tup [.bytes b,a]/\Q (.tup [.bytes b,a])
 | 5=>∃ n,v=.int n/\Q (.int n)
 | 6=>∃ cs w,v=.tup [.tup cs,.int w]/\Q (.tup [.tup cs,.int w])
 | _=>Q v
theorem viewP_of{k:Nat}{v:V}{Q:V->Prop}(h:viewP k v Q):Q v:=by
 unfold viewP at h;split at h
 ·obtain ⟨_,_,_,e,q⟩:=h;subst e;exact q
 ·obtain ⟨_,_,e,q⟩:=h;subst e;exact q
 ·obtain ⟨_,_,e,q⟩:=h;subst e;exact q
 ·obtain ⟨_,_,e,q⟩:=h;subst e;exact q
 ·obtain ⟨_,e,q⟩:=h;subst e;exact q
 ·obtain ⟨_,_,e,q⟩:=h;subst e;exact q
 ·exact h
noncomputable def viewAt(T:Tabs)(p:Pos):Nat:=match T.views with
 | []=>0
 | l=>(l.lookup (p.line,p.endCol)).getD 0
noncomputable def setItemQ(σ:List O)(a i u:V)(Q:List O->Prop):Prop:=zB (kU a) fun l=>match zL i with
 | some i=>zB (yU σ (.loc l)) fun vs=>xV (vs.length<=big/\0<=idx vs.length i/\idx vs.length i < vs.length) (Q (σ.set l (.list (vs.set (idx vs.length i).toNat u))))
 | none=>zB (qC σ (.loc l)) fun d=>xV (d.1.length < 10000) (zB (yL d.1 i) fun r=>Q (σ.set l (putK d.1 d.2 i u r)))
theorem loc_list{σ:List O}{l:Nat}{vs:List V}(h:yU σ (.loc l)=some vs):σ[l]?=some (.list vs):=xQ h fun _ e k=>e.trans (congrArg some (oLst_of k))
theorem loc_dict{σ:List O}{l:Nat}{d:List V×List V}(h:qC σ (.loc l)=some d):σ[l]?=some (.dict d.1 d.2):=xQ h fun _ e k=>e.trans (congrArg some (oDct_of k))
theorem loc_barr{σ:List O}{l:Nat}{b:List UInt8}(h:barOf σ (.loc l)=some b):σ[l]?=some (.barr b):=xQ h fun _ e k=>e.trans (congrArg some (oBar_of k))
theorem setItemQ_P{σ:List O}{a i u:V}{Q:List O->Prop}(h:setItemQ σ a i u Q):setItemP σ a i u Q:=by
 apply gk;intro J;obtain ⟨l,e,h⟩:=zA h;apply J;clear J;refine rwp (yV e) ?_;cases e:zL i with
 | some i =>
  rw [e] at h;apply gk;intro J;obtain ⟨vs,e1,h⟩:=zA h;apply J;clear J;have h':=zU h;refine rwp (zJ e) ?_;exact .c0 (loc_list e1) (len62 h'.1.1) h'.1.2.1 h'.1.2.2 h'.2
 | none =>
  rw [e] at h;apply gk;intro J;obtain ⟨d,e1,h⟩:=zA h;obtain ⟨h1,h⟩:=zU h;obtain ⟨r,e2,q⟩:=zA h;apply J;clear J;exact .c1 (loc_dict e1) e2 h1 q
noncomputable def setAttrQ(σ:List O)(T:Tabs)(a:V)(x:Str)(u:V)(Q:List O->Prop):Prop:=zB (kU a) fun i=>zB (σ[i]?.bind oIns) fun cj=>zB (σ[cj.2]?.bind oAtt) fun nv=>zB (T.clss.lookup cj.1) fun ci =>
 chk (ci.2.2.contains x&&Nat.blt nv.1.length 1000) (Q (σ.set cj.2 (.attrs (putA nv.1 nv.2 x u).1 (putA nv.1 nv.2 x u).2)))
theorem setAttrQ_P{σ:List O}{T:Tabs}{a u:V}{x:Str}{Q:List O->Prop}(h:setAttrQ σ T a x u Q):setAttrP σ T a x u Q:=by
 apply gk;intro J;obtain ⟨i,e,h⟩:=zA h;apply J;clear J;refine rwp (yV e) ?_;apply gk;intro J;obtain ⟨cj,e1,h⟩:=zA h;obtain ⟨nv,e2,h⟩:=zA h;obtain ⟨ci,e3,h⟩:=zA h;obtain ⟨h1,q⟩:=jM h;apply J;clear J;exact .mk (xQ e1 fun _ e k=>e.trans (congrArg some (oIns_of k))) (xQ e2 fun _ e k=>e.trans (congrArg some (oAtt_of k))) e3 (Bool.and_eq_true_iff.mp h1).1 (Nat.le_of_ble_eq_true (Bool.and_eq_true_iff.mp h1).2) q
noncomputable def sliceQ(ow:Bool)(σ:List O)(a lo hi st:V)(Q:V->List O->Prop):Prop:=match isNone st with
 | true=>match yS a with
  | some b=>zB (bndOf lo) fun l=>zB (bndOf hi) fun h=>xV (b.length<=big) (Q (.bytes (cut b l h)) σ)
  | none=>zB (yU σ a) fun vs=>zB (bndOf lo) fun l=>zB (bndOf hi) fun h=>xV (vs.length<=big) (newList ow (cut vs l h) σ Q)
 | false=>zB (zL st) fun i=>chk (isNone lo&&isNone hi&&decide (i=-1)) (match yU σ a with
   | some vs=>xV (vs.length<=big) (newList ow vs.reverse σ Q)
   | none=>zB (barOf σ a) fun b=>xV (b.length<=big) (newBarr ow b.reverse σ Q))
theorem sliceQ_P{ow:Bool}{σ:List O}{a lo hi st:V}{Q:V->List O->Prop}(h:sliceQ ow σ a lo hi st Q):sliceP ow σ a lo hi st Q:=by
 unfold sliceQ at h;cases e0:isNone st with
 | true =>
  rw [e0] at h;refine rwp (xA e0) ?_;cases e:yS a with
  | some b =>
   rw [e] at h;obtain ⟨l,e1,h⟩:=zA h;obtain ⟨u,e2,h⟩:=zA h;refine rwp (zZ e) ?_;exact .c0 e1 e2 (zU h).1 (zU h).2
  | none =>
   rw [e] at h;obtain ⟨vs,e0,h⟩:=zA h;obtain ⟨l,e1,h⟩:=zA h;obtain ⟨u,e2,h⟩:=zA h;exact .c1 e0 e1 e2 (zU h).1 (zU h).2
 | false =>
  rw [e0] at h;obtain ⟨i,e1,h⟩:=zA h;obtain ⟨h1,h⟩:=jM h;simp only [Bool.and_eq_true,decide_eq_true_eq] at h1;refine rwp (zJ e1) ?_;refine rwp h1.2 ?_;cases e:yU σ a with
  | some vs=>rw [e] at h;exact .c2 e h1.1.1 h1.1.2 (zU h).1 (zU h).2
  | none=>rw [e] at h;obtain ⟨b,e2,h⟩:=zA h;exact .c3 e2 h1.1.1 h1.1.2 (zU h).1 (zU h).2
noncomputable def jD:List V->Option (List UInt8)
 | []=>some []
 | a::r=>(zL a).bind fun i=>match decide (0<=i/\i < 256) with
  | true=>(jD r).map (UInt8.ofNat i.toNat::·)
  | false=>none
theorem intsOf_spec:∀ {l:List V} {bs:List UInt8},jD l=some bs->l=bs.map fun c=>V.int (c.toNat:Nat):=fun {l}=>by
 induction l with
 | nil=>intro bs h;refine rwp (Option.some.inj h).symm ?_;rfl
 | cons v r ih =>
  intro bs h;refine xQ h fun i e h=>?_;cases hd:decide (0<=i/\i < 256) with
  | false=>rw [hd] at h;exact zK h
  | true =>
   rw [hd] at h;have hd:=of_decide_eq_true hd;obtain ⟨bs',h1,h2⟩:=Option.map_eq_some_iff.mp h;refine rwp h2.symm ?_;refine rwp (ih h1) ?_;refine rwp List.map_cons ?_;refine rwp (zJ e) ?_;congr 2
   refine rwp UInt8.toNat_ofNat' ?_;omega
theorem int_1{c:Int}(h:0<=c)(h':c < 256):jD [.int c]=some [UInt8.ofNat c.toNat]:=by
 show (match decide (0<=c/\c < 256) with | true=>(jD []).map (UInt8.ofNat c.toNat::·) | false=>none)=_
 refine rwp (decide_eq_true ⟨h,h'⟩) ?_;rfl
noncomputable def keysBy(l:List V):Option (List (List UInt8)):=match l with
 | []=>some []
 | a::r=>match r with
  | []=>(yS a).map ([·])
  | _=>none
theorem keysBy_spec{l:List V}{bs:List (List UInt8)}(h:keysBy l=some bs):l=bs.map V.bytes/\bs.Nodup/\bs.length<=1000:=by
 rcases l with _ | ⟨a,_ | ⟨b,r⟩⟩
 ·refine rwp (Option.some.inj h).symm ?_;exact ⟨rfl,List.nodup_nil,Nat.zero_le _⟩
 ·obtain ⟨b,e,h⟩:=Option.map_eq_some_iff.mp h;refine rwp h.symm ?_;refine rwp (zZ e) ?_;exact ⟨rfl,List.nodup_cons.mpr ⟨List.not_mem_nil,List.nodup_nil⟩,Nat.succ_le_succ (Nat.zero_le _)⟩
 ·exact zK h
noncomputable def oneSign(s:Str):Option Nat:=match s.cps.toList with
 | []=>none
 | c::r=>match r with
  | []=>some c
  | _=>none
theorem oneSign_spec{s:Str}{c:Nat}(h:oneSign s=some c):s=⟨#[c]⟩:=by
 obtain ⟨⟨l⟩⟩:=s;rcases l with _ | ⟨a,_ | ⟨b,r⟩⟩
 ·exact zK h
 ·rw [Option.some.inj (show some a=some c from h)]
 ·exact zK h
noncomputable def TabAll{β:Type}(R:String->β->Prop):List (String×β)->Prop
 | []=>True
 | p::r=>R p.1 p.2/\TabAll R r
theorem tab_of{β:Type}{R:String->β->Prop}{P:β->Prop}{id:String}{tab:List (String×β)}(h:zB (tab.lookup id) P)(a:TabAll R tab):∃ g,P g/\R id g:=by
 induction tab with
 | nil=>exact h.elim
 | cons p r ih =>
  obtain ⟨g,e,q⟩:=zA h;rw [List.lookup_cons] at e;cases hb:id==p.1 with
  | true =>
   rw [hb] at e;exact ⟨g,q,by refine rwp (eq_of_beq hb) ?_;refine rwp (Option.some.inj e).symm ?_;exact a.1⟩
  | false=>rw [hb] at e;exact ih (zD e q) a.2
noncomputable abbrev biQ(σ:List O)(Q:V->List O->Prop):List (String×(List V->Prop)):=[
 ("len",fun as=>jY as fun a=>zB (lenOf σ a) fun n=>xV (n<=big) (Q (.int (n:Nat)) σ)),
 ("abs",fun as=>jY as fun a=>zB (zL a) fun i=>Q (.int (i.natAbs:Nat)) σ),
 ("min",fun as=>twoA as fun a b=>zB (zL a) fun i=>zB (zL b) fun j=>Q (.int (min i j)) σ),
 ("ord",fun as=>jY as fun a=>zB (asStr a) fun s=>zB (oneSign s) fun c=>Q (.int (c:Nat)) σ),
 ("isinstance",fun as=>twoA as fun a b=>zB (asTy b) fun t=>zB (isOf t a) fun r=>Q (.bool r) σ)]
noncomputable abbrev tyQ(ow:Bool)(σ:List O)(Q:V->List O->Prop):List (String×(List V->Prop)):=[
 ("bytes",fun as=>jY as fun a=>match barOf σ a with
  | some b=>xV (b.length<=big) (Q (.bytes b) σ)
  | none=>zB (yU σ a) fun l=>zB (jD l) fun bs=>xV (bs.length<=big) (Q (.bytes bs) σ)),
 ("bytearray",fun as=>noA as (newBarr ow [] σ Q)),
 ("list",fun as=>jY as fun a=>match jO a with
  | some vs=>xV (vs.length<=big) (newList ow vs σ Q)
  | none=>zB (yU σ a) fun vs=>xV (vs.length<=big) (newList ow vs σ Q)),
 ("tuple",fun as=>jY as fun a=>zB (jO a) fun vs=>Q (.tup vs) σ),
 ("dict",fun as=>jY as fun a=>zB (qC σ a) fun d=>zB (keysBy d.1) fun _=>Q (.dct d.1 d.2) σ),
 ("str",fun as=>jY as fun a=>zB (zL a) fun i=>xV (0<=i/\i < 10000000000000000000000000000000000000000) (Q (.str (Str.ofString (toString i))) σ)),
 ("range",fun as=>jY as fun a=>zB (zL a) fun n=>xV (0<=n/\n < 4611686018427387904) (Q (.rng n) σ))]
noncomputable def callQ(ow:Bool)(f:V)(args:List V)(σ:List O)(Q:V->List O->Prop):Prop:=match f with
 | .bi id=>zB ((biQ σ Q).lookup id) fun g=>g args
 | .ty id=>zB ((tyQ ow σ Q).lookup id) fun g=>g args
 | _=>False
noncomputable def popOf:List V->Option (List V×V)
 | []=>none
 | [v]=>some ([],v)
 | v::r=>(popOf r).map fun p=>(v::p.1,p.2)
theorem popOf_spec:∀ {l:List V} {p:List V×V},popOf l=some p->l=p.1++[p.2]
 | [],p,h=>by cases h
 | [v],p,h=>by cases h;rfl
 | v::u::r,p,h=>by
  obtain ⟨q,h1,rfl⟩:=Option.map_eq_some_iff.mp (show (popOf (u::r)).map _=_ from h);refine rwp (popOf_spec h1) ?_;rfl
noncomputable abbrev methT(a:V)(σ:List O)(Q:V->List O->Prop):List (String×(List V->Prop)):=[
 ("list.append",fun as=>zB (kU a) fun i=>jY as fun u=>zB (yU σ (.loc i)) fun vs=>xV (vs.length < 1000000) (Q .none (σ.set i (.list (vs++[u]))))),
 ("list.extend",fun as=>zB (kU a) fun i=>jY as fun u=>zB (yU σ (.loc i)) fun vs=>zB (yU σ u) fun us=>chk (isLst u) (xV (vs.length+us.length < 1000000) (Q .none (σ.set i (.list (vs++us)))))),
 ("list.pop",fun as=>zB (kU a) fun i=>noA as (zB (yU σ (.loc i)) fun vs=>zB (popOf vs) fun p=>xV (p.1.length < 1000000) (Q p.2 (σ.set i (.list p.1))))),
 ("bytearray.append",fun as=>zB (kU a) fun i=>jY as fun u=>zB (zL u) fun c=>zB (barOf σ (.loc i)) fun b=>xV (0<=c/\c < 256/\b.length < 1000000) (Q .none (σ.set i (.barr (b++[UInt8.ofNat c.toNat]))))),
 ("bytearray.extend",fun as=>zB (kU a) fun i=>jY as fun u=>zB (yS u) fun c=>zB (barOf σ (.loc i)) fun b=>xV (b.length+c.length < 1000000) (Q .none (σ.set i (.barr (b++c))))),
 ("dict.get",fun as=>zB (asDct a) fun d=>jY as fun k=>zB (yL d.1 k) fun r=>match r with
  | some n=>zB d.2[n]? fun v=>Q v σ
  | none=>Q .none σ),
 ("bytes.join",fun as=>zB (yS a) fun s=>jY as fun u=>zB (yU σ u) fun l=>zB (byOf l) fun bs=>xV ((yT s bs).length<=big) (Q (.bytes (yT s bs)) σ))]
noncomputable def methQ(id:String)(a:V)(args:List V)(σ:List O)(Q:V->List O->Prop):Prop:=zB ((methT a σ Q).lookup id) fun g=>g args
noncomputable def bindA(ps:List Str)(args dfl:List V):Option Loc:=match Nat.ble args.length ps.length&&Nat.ble ps.length (args.length+dfl.length) with
 | false=>none
 | true=>some (ps.zip (args++dfl.drop (dfl.length - (ps.length - args.length))))
noncomputable def kX:V->Option (List V)
 | .tup vs=>some vs
 | .lst vs=>some vs
 | .rng n=>some ((List.range n.toNat).map fun i=>V.int (i:Nat))
 | .str s=>some (s.cps.toList.map fun c=>V.str ⟨#[c]⟩)
 | _=>none
noncomputable def kS(vs:List V):List V:=vs.zipIdx.map fun p=>V.tup [.int (p.2:Nat),p.1]
noncomputable def methOf(T:Tabs)(σ:List O)(a:V)(x:Str):Option Addr:=match a with
 | .loc i=>match σ[i]? with
  | some (.inst c j)=>match σ[j]?,T.clss.lookup c with
   | some (.attrs ns _),some ci=>if ns.contains x then none else ci.2.1.lookup x
   | _,_=>none
  | _=>none
 | .obj c ns _=>match T.clss.lookup c with
  | some ci=>if ns.contains x then none else ci.2.1.lookup x
  | none=>none
 | _=>none
noncomputable def xO(F:Fra)(bs:List (Str×V)):Bool:=bs.all fun p=>F.names.lookup p.1==some .local
noncomputable def qJ:Expr->Option Str
 | .Name x _=>some x
 | _=>none
theorem qP{e:Expr}{x:Str}(h:qJ e=some x):∃ p,e=.Name x p:=by
 induction e using PySem.Expr.casesOn with
 | Name y p=>exact ⟨p,by rw [<- Option.some.inj h]⟩
 | _=>exact zK h
noncomputable def asTupE:Expr->Option (List Expr)
 | .Tuple l _ _=>some l
 | _=>none
theorem asTupE_of{e:Expr}{l:List Expr}(h:asTupE e=some l):∃ k p,e=.Tuple l k p:=by
 induction e using PySem.Expr.casesOn with
 | Tuple y k p=>exact ⟨k,p,by rw [<- Option.some.inj h]⟩
 | _=>exact zK h
noncomputable def two2{α β:Type}(l:List α)(f:α->α->Option β):Option β:=match l with
 | []=>none
 | a::r=>match r with
  | []=>none
  | b::r=>match r with
   | []=>f a b
   | _=>none
theorem two2_of{α β:Type}{l:List α}{f:α->α->Option β}{r:β}(h:two2 l f=some r):∃ a b,l=[a,b]/\f a b=some r:=by
 rcases l with _ | ⟨a,_ | ⟨b,_ | ⟨c,l⟩⟩⟩
 ·exact zK h
 ·exact zK h
 ·exact ⟨a,b,rfl,h⟩
 ·exact zK h
noncomputable def vC(t:Expr)(v:V):Option (List (Str×V)):=match qJ t with
 | some x=>some [(x,v)]
 | none=>(asTupE t).bind fun l=>two2 l fun a b=>(qJ a).bind fun x=>(qJ b).bind fun y=>(jO v).bind fun vs=>two2 vs fun u w=>some [(x,u),(y,w)]
theorem bindT_of{t:Expr}{v:V}{bs:List (Str×V)}(h:vC t v=some bs):(∃ x p,t=.Name x p/\bs=[(x,v)])\/∃ x p1 y p2 k p u1 u2,t=.Tuple [.Name x p1,.Name y p2] k p/\v=.tup [u1,u2]/\bs=[(x,u1),(y,u2)]:=by
 have h:(match qJ t with
  | some x=>some [(x,v)]
  | none=>(asTupE t).bind fun l=>two2 l fun a b=>(qJ a).bind fun x=>(qJ b).bind fun y=>(jO v).bind fun vs=>two2 vs fun u w=>some [(x,u),(y,w)])=some bs:=h
 cases e:qJ t with
 | some x =>
  rw [e] at h;apply gk;intro J;obtain ⟨p,e⟩:=qP e;apply J;clear J;exact .inl ⟨x,p,e,(Option.some.inj h).symm⟩
 | none =>
  rw [e] at h;apply gk;intro J;obtain ⟨l,e1,h⟩:=Option.bind_eq_some_iff.mp h;obtain ⟨a,b,rfl,h⟩:=two2_of h;obtain ⟨x,e2,h⟩:=Option.bind_eq_some_iff.mp h;obtain ⟨y,e3,h⟩:=Option.bind_eq_some_iff.mp h;obtain ⟨vs,e4,h⟩:=Option.bind_eq_some_iff.mp h;obtain ⟨u1,u2,rfl,h⟩:=two2_of h;obtain ⟨k,p,e1⟩:=asTupE_of e1;obtain ⟨p1,e2⟩:=qP e2;obtain ⟨p2,e3⟩:=qP e3;apply J;clear J;exact .inr ⟨x,p1,y,p2,k,p,u1,u2,by rw [e1,e2,e3],xG e4,(Option.some.inj h).symm⟩
noncomputable def xN:Loc->List (Str×V)->Loc
 | m,[]=>m
 | m,(x,v)::r=>xN (updL m x v) r
noncomputable def constP(c:Const)(Q:V->Prop):Prop:=match c with
 | .none=>Q .none
 | .bool b=>Q (.bool b)
 | .int i=>Q (.int i)
 | .str s=>Q (.str s)
 | .bytes b=>Q (.bytes b)
 | _=>False
noncomputable def oCel:O->Option (Option V)
 | .cell v=>some v
 | _=>none
theorem oCel_of{a:O}{b:Option V}(h:oCel a=some b):a=.cell b:=by
 induction a using Mine.O.casesOn with
 | cell j=>exact congrArg O.cell (Option.some.inj h)
 | _=>exact zK h
noncomputable def yB{α:Type}(o:Option α)(P:α->Prop):Prop:=match o with
 | some a=>P a
 | none=>False
noncomputable def optW{α:Type}(o:Option α)(f:α->Prop)(g:Prop):Prop:=match o with
 | some a=>f a
 | none=>g
noncomputable def yX(b:Bool)(P:Prop):Prop:=match b with
 | true=>P
 | false=>False
noncomputable def ifW(b:Bool)(P Q:Prop):Prop:=match b with
 | true=>P
 | false=>Q
noncomputable def oneW{α:Type}(l:List α)(P:α->Prop):Prop:=match l with
 | []=>False
 | a::r=>match r with
  | []=>P a
  | _=>False
noncomputable def consW{α:Type}(l:List α)(P:α->List α->Prop):Prop:=match l with
 | []=>False
 | a::r=>P a r
theorem zN{α:Type}{o:Option α}{P:α->Prop}(h:yB o P):∃ a,o=some a/\P a:=zA h
theorem qL{α:Type}{o:Option α}{a:α}{P:α->Prop}(h:o=some a)(p:P a):yB o P:=by subst h;exact p
theorem optW_no{α:Type}{o:Option α}{f:α->Prop}{g:Prop}(e:o=none)(h:g):optW o f g:=by refine rwp e ?_;exact h
theorem optW_in{α:Type}{o:Option α}{f:α->Prop}{g:Prop}{a:α}(e:o=some a)(h:f a):optW o f g:=by refine rwp e ?_;exact h
theorem jF{α:Type}{o:Option α}{f:α->Prop}{g:Prop}{a:α}(h:optW o f g)(e:o=some a):f a:=by rw [e] at h;exact h
theorem jG{α:Type}{o:Option α}{f:α->Prop}{g:Prop}(h:optW o f g)(e:o=none):g:=by rw [e] at h;exact h
theorem yE{b:Bool}{P:Prop}(h:yX b P):b=true/\P:=jM h
theorem chkW_in{b:Bool}{P:Prop}(h:b=true)(p:P):yX b P:=by subst h;exact p
theorem ifW_T{b:Bool}{P Q:Prop}(h:ifW b P Q)(e:b=true):P:=by rw [e] at h;exact h
theorem ifW_F{b:Bool}{P Q:Prop}(h:ifW b P Q)(e:b=false):Q:=by rw [e] at h;exact h
theorem ifW_t{b:Bool}{P Q:Prop}(e:b=true)(h:P):ifW b P Q:=by refine rwp e ?_;exact h
theorem ifW_f{b:Bool}{P Q:Prop}(e:b=false)(h:Q):ifW b P Q:=by refine rwp e ?_;exact h
theorem oneW_of{α:Type}{l:List α}{P:α->Prop}(h:oneW l P):∃ a,l=[a]/\P a:=by
 rcases l with _ | ⟨a,_ | ⟨b,l⟩⟩
 ·exact h.elim
 ·exact ⟨a,rfl,h⟩
 ·exact h.elim
theorem consW_of{α:Type}{l:List α}{P:α->List α->Prop}(h:consW l P):∃ a r,l=a::r/\P a r:=by
 induction l using List.casesOn with
 | nil=>exact h.elim
 | cons a r=>exact ⟨a,r,rfl,h⟩
noncomputable def cellP(F:Fra)(σ:List O)(x:Str)(Q:V->Prop):Prop:=yB (F.cells.lookup x) fun i=>yB (σ[i]?.bind oCel) fun v=>yB v Q
noncomputable def nameP(T:Tabs)(F:Fra)(m:Loc)(σ:List O)(x:Str)(Q:V->Prop):Prop:=yB (F.names.lookup x) fun k=>match k with
 | .local=>yB (m.lookup x) Q
 | .globalImplicit=>yB (T.globs.lookup x) Q
 | .cell=>cellP F σ x Q
 | .free=>(x==("__classdict__" : Str))=false/\cellP F σ x Q
 | _=>False
noncomputable def xE(names:List (Str×NameKind)):List O:=(names.filter fun p=>p.2==.cell).map fun _=>.cell none
noncomputable def bindF(F:Fra):List (Str×V)->Loc->List O->Option (Loc×List O)
 | [],m,σ=>some (m,σ)
 | p::r,m,σ=>(F.names.lookup p.1).bind fun k=>match k with
  | .local=>bindF F r (updL m p.1 p.2) σ
  | .cell=>(F.cells.lookup p.1).bind fun i=>(σ[i]?.bind oCel).bind fun _=>bindF F r m (σ.set i (.cell (some p.2)))
  | _=>none
noncomputable def notSuper:Expr->Bool
 | .Call (.Name id _) [] [] _=>!(id == "super")
 | _=>true
noncomputable def kW:Expr->Bool
 | .Starred ..=>false
 | _=>true
noncomputable def plainArgs(es:List Expr):Bool:=Nat.blt es.length 20&&es.all kW
noncomputable def zP(F:Fra)(sc:Scope):Fra:=⟨sc.names.map fun p=>if p.2==.free then (p.1,.cell) else p,(sc.names.filter fun p=>p.2==.free).filterMap fun p=>(F.cells.lookup p.1).map (p.1,·),none⟩
noncomputable def kI:Expr->Option Expr
 | .Call f es ks _=>(qJ f).bind fun x=>one1 es fun e=>match x==("enumerate" : Str)&&ks.isEmpty with
  | true=>some e
  | false=>none
 | _=>none
theorem enumArg_of{it e:Expr}(h:kI it=some e):∃ p cp,it=.Call (.Name "enumerate" p) [e] [] cp:=by
 induction it using PySem.Expr.casesOn with
 | Call f es ks cp =>
  refine xQ h fun x e1 h=>?_;apply gk;intro J;obtain ⟨p,ef⟩:=qP e1;obtain ⟨a,e2,h⟩:=one1_of h;apply J;clear J;cases hb:(x==("enumerate" : Str)&&ks.isEmpty) with
  | false=>rw [hb] at h;exact zK h
  | true =>
   rw [hb] at h;have hb:=Bool.and_eq_true_iff.mp hb;exact ⟨p,cp,by rw [ef,e2,Option.some.inj h,eq_of_beq hb.1,List.isEmpty_iff.mp hb.2]⟩
 | _=>exact zK h
noncomputable def isTupE:Expr->Bool
 | .Tuple ..=>true
 | _=>false
noncomputable def compOk(F:Fra)(sc:Scope):Bool:=sc.kind==.function&&(sc.names.all fun p=>(p.2==.local&&sc.names.lookup p.1==some .local)||p.2==.globalImplicit||(p.2==.free&&F.names.lookup p.1==some .cell&&(F.cells.lookup p.1).isSome)) &&
 Nat.ble (sc.names.filter fun p=>p.2==.free).length 1
noncomputable def notComp:Expr->Bool
 | .ListComp ..=>false
 | .SetComp ..=>false
 | .DictComp ..=>false
 | _=>true
noncomputable def cloOk(sc:Scope)(x:Str):Bool:=sc.kind==.function&&!sc.isGenerator&&!sc.isCoroutine&&sc.names.lookup x==some .local&&sc.names.all fun p=>p.2 != .cell
noncomputable def lamOk(F:Fra)(sc:Scope):Bool:=(sc.names.all fun p=>p.2==.local||p.2==.globalImplicit||(p.2==.free&&F.names.lookup p.1==some .cell&&(F.cells.lookup p.1).isSome)) &&
 Nat.ble (sc.names.filter fun p=>p.2==.free).length 1
noncomputable def compAsg(F:Fra):Expr->Expr->Option Str
 | .Name y py,e=>match e with
  | .ListComp _ _ sc p=>match F.names.lookup y==some .local&&py.line==p.line&&!(sc.names.any fun (n,k)=>n==y&&(k==.local||k==.cell)) with
   | true=>some y
   | false=>none
  | _=>none
 | _,_=>none
theorem compAsg_of{F:Fra}{t e:Expr}{y:Str}(h:compAsg F t e=some y):∃ py elt gs sc p,t=.Name y py/\e=.ListComp elt gs sc p/\(F.names.lookup y==some .local&&py.line==p.line&&!(sc.names.any fun (n,k)=>n==y&&(k==.local||k==.cell)))=true:=by
 induction t using PySem.Expr.casesOn with
 | Name y' py=>induction e using PySem.Expr.casesOn with
  | ListComp elt gs sc p =>
   have h:(match F.names.lookup y'==some .local&&py.line==p.line&&!(sc.names.any fun (n,k)=>n==y'&&(k==.local||k==.cell)) with
    | true=>some y'
    | false=>none)=some y:=h
   cases hb:(F.names.lookup y'==some .local&&py.line==p.line&&!(sc.names.any fun (n,k)=>n==y'&&(k==.local||k==.cell))) with
   | false=>rw [hb] at h;exact zK h
   | true=>rw [hb] at h;refine rwp (Option.some.inj h).symm ?_;exact ⟨py,elt,gs,sc,p,rfl,rfl,hb⟩
  | _=>exact zK h
 | _=>exact zK h
set_option backward.match.sparseCases true in
noncomputable def qK(F:Fra)(line:Nat)(ts:List Expr):List Str:=ts.filterMap fun
  | .Name id pos=>if F.names.lookup id==some .local&&pos.line==line then some id else none
  | _=>none
set_option backward.match.sparseCases true in
noncomputable def swpOf(F:Fra)(t e:Expr):Option (Option (List Str)):=match t,e with
 | .Tuple ts _ _,.Tuple vs _ _=>if !(ts.length==2||ts.length==3)||vs.length != ts.length then some none
  else if vs.any fun | .Starred ..=>true | _=>false then some none
  else if (qK F ((ts.head?.map (·.pos.line)).getD 0) ts).length != ts.length||(qK F ((ts.head?.map (·.pos.line)).getD 0) ts).eraseDups.length != (qK F ((ts.head?.map (·.pos.line)).getD 0) ts).length then some none
  else if vs.all (foldedForSure 8) then some none
  else if vs.all (constantsAlone 8) then none
  else some (some (qK F ((ts.head?.map (·.pos.line)).getD 0) ts))
 | .List _ _,_=>none
 | _,_=>some none
noncomputable def asAttr:Expr->Option (Expr×Str×Pos)
 | .Attribute o x p=>some (o,x,p)
 | _=>none
theorem asAttr_of{e:Expr}{q:Expr×Str×Pos}(h:asAttr e=some q):e=.Attribute q.1 q.2.1 q.2.2:=by
 induction e using PySem.Expr.casesOn with
 | Attribute o x p=>rw [<- Option.some.inj h]
 | _=>exact zK h
noncomputable def asSli:Expr->Option (Option Expr×Option Expr×Option Expr×Pos)
 | .Slice lo hi st p=>some (lo,hi,st,p)
 | _=>none
theorem asSli_of{e:Expr}{q:Option Expr×Option Expr×Option Expr×Pos}(h:asSli e=some q):e=.Slice q.1 q.2.1 q.2.2.1 q.2.2.2:=by
 induction e using PySem.Expr.casesOn with
 | Slice lo hi st p=>rw [<- Option.some.inj h]
 | _=>exact zK h
noncomputable def asNot:Expr->Option Expr
 | .UnaryOp op x _=>match op with
  | .Not=>some x
  | _=>none
 | _=>none
noncomputable def genW(l:List Comprehension)(P:Expr->Expr->Prop):Prop:=match l with
 | []=>False
 | g::r=>match g with
  | ⟨t,it,fs,a⟩=>match r with
   | _::_=>False
   | []=>match fs with
    | _::_=>False
    | []=>yX (a==0) (P t it)
theorem genW_of{l:List Comprehension}{P:Expr->Expr->Prop}(h:genW l P):∃ t it,l=[⟨t,it,[],0⟩]/\P t it:=by
 rcases l with _ | ⟨⟨t,it,_ | ⟨f,fs⟩,a⟩,_ | ⟨b,r⟩⟩
 ·exact h.elim
 ·obtain ⟨e,h⟩:=yE h;exact ⟨t,it,by rw [eq_of_beq e],h⟩
 ·exact h.elim
 ·exact h.elim
 ·exact h.elim
noncomputable def oClo:O->Option (Str×Str×Scope×Expr×List (Str×Nat))
 | .clo q x sc body cs=>some (q,x,sc,body,cs)
 | _=>none
theorem oClo_of{a:O}{b:Str×Str×Scope×Expr×List (Str×Nat)}(h:oClo a=some b):a=.clo b.1 b.2.1 b.2.2.1 b.2.2.2.1 b.2.2.2.2:=by
 induction a using Mine.O.casesOn with
 | clo=>rw [<- Option.some.inj h]
 | _=>exact zK h
mutual
noncomputable def wpE(T:Tabs):Nat->Fra->Expr->Loc->List O->(V->List O->Prop)->Prop
 | 0,_,_,_,_,_=>False
 | n+1,F,e,m,σ,Q=>match e with
  | .Constant c _ _=>constP c fun v=>Q v σ
  | .Name x _=>yX (!(x == "__debug__")) (nameP T F m σ x fun v=>Q v σ)
  | .BinOp l op r _=>wpE T n F l m σ fun a σ1=>wpE T n F r m σ1 fun b σ2=>binQ op a b fun c=>Q c σ2
  | .UnaryOp op x _=>match op with
   | .USub=>wpE T n F x m σ fun a σ1=>yB (zL a) fun i=>Q (.int (-i)) σ1
   | .Not=>wpE T n F x m σ fun a σ1=>vF a fun b=>Q (.bool (!b)) σ1
   | _=>False
  | .IfExp t b o _=>wpT T n F t m σ fun c σ1=>ifB c (wpE T n F b m σ1 Q) (wpE T n F o m σ1 Q)
  | .BoolOp op es _=>wpB T n F op es m σ Q
  | .Compare l ops rs _=>wpE T n F l m σ fun a σ1=>wpC T n F ops rs a m σ1 fun b σ2=>Q (.bool b) σ2
  | .Call f args kws p=>match kws with
   | _::_=>False
   | []=>optW (asAttr f) (fun q=>yX (notSuper q.1&&plainArgs args&&q.2.2.endLine==p.line)<|wpE T n F q.1 m σ fun a σ1=>optW (methOf T σ1 a q.2.1)
     (fun f=>wpEs T n F args m σ1 fun vs σ2=>wpF T n f (a::vs) σ2 Q)
     (yB (mbId σ1 a q.2.1) fun id=>wpEs T n F args m σ1 fun vs σ2=>methQ id a vs σ2 Q))
    (yX (plainArgs args)<|wpE T n F f m σ fun g σ1=>wpEs T n F args m σ1 fun vs σ2=>match g with
     | .ref a=>optW (T.clss.lookup a) (fun ci=>wpF T n ci.1 (.loc (σ2.length+1)::vs) (σ2++[.attrs [] [],.inst a σ2.length]) fun r σ3=>yX (isNone r) (Q (.loc (σ2.length+1)) σ3))
      (wpF T n a vs σ2 Q)
     | .loc i=>yB (σ2[i]?.bind oClo) fun c=>oneW vs fun v=>yX (cloOk c.2.2.1 c.2.1) (wpO T n ⟨c.2.2.1.names,c.2.2.2.2,none⟩ (some c.2.2.2.1) [(c.2.1,v)] σ2 Q)
     | g=>callQ (T.owned.contains p.line) g vs σ2 Q)
  | .Attribute v x _=>yX (notSuper v)<|wpE T n F v m σ fun a σ1=>yB (attrOf σ1 T a x) fun u=>Q u σ1
  | .Subscript v i p=>optW (asSli i) (fun q=>wpE T n F v m σ fun a σ1=>wpO T n F q.1 m σ1 fun l σ2=>wpO T n F q.2.1 m σ2 fun h σ3=>wpO T n F q.2.2.1 m σ3 fun s σ4=>sliceQ (T.owned.contains p.line) σ4 a l h s Q)
   (wpE T n F v m σ fun a σ1=>wpE T n F i m σ1 fun b σ2=>subQ σ2 a b fun c=>viewP (viewAt T p) c fun c=>Q c σ2)
  | .List es p=>wpEs T n F es m σ fun vs σ1=>yX (Nat.blt vs.length 100) (newList (T.owned.contains p.line) vs σ1 Q)
  | .Tuple es _ _=>wpEs T n F es m σ fun vs σ1=>yX (Nat.blt vs.length 100) (Q (.tup vs) σ1)
  | .Dict ks es p=>ifW (ks.isEmpty&&es.isEmpty) (newDict (T.owned.contains p.line) [] [] σ Q)<|yX (Nat.blt es.length 15&&ks.all (·.isSome)&&ks.length==es.length)<|wpD T n F ks es m (σ++[.dict [] []]) fun us vs σ1=>distK [] us/\σ1[σ.length]?=some (.dict [] [])/\Q (.loc σ.length) (σ1.set σ.length (.dict us vs))
  | .Lambda ps body sc _=>yB F.lam fun q=>yB (lamArg ps) fun x=>yX (lamOk F sc) (σ[0]?=some (.raw (tabObj #[]))/\Q (.loc σ.length) ((σ.set 0 .tab)++[.clo (q ++ "<lambda>") x sc body (zP F sc).cells]))
  | .ListComp elt gs sc p=>genW gs fun t it=>yX (compOk F sc)<|wpE T n F it m σ fun a σ1=>optW (kX a) (fun items=>chk2 (items.length<=1000000)<|ifW (T.unroll.contains p.line) (wpL T n (zP F sc) elt t items m σ1 fun us σ2=>Q (.lst us) σ2) (∃ f:V->V,wpK T n (zP F sc) elt t items σ1 f/\Q (.lst (items.map f)) σ1))<|yB (yU σ1 a) fun items=>yX (!T.unroll.contains p.line)<|chk2 (items.length<=1000000)<|∃ f:V->V,wpK T n (zP F sc) elt t items σ1 f/\Q (.lst (items.map f)) σ1
  | _=>False
noncomputable def wpEs(T:Tabs):Nat->Fra->List Expr->Loc->List O->(List V->List O->Prop)->Prop
 | 0,_,_,_,_,_=>False
 | n+1,F,es,m,σ,Q=>match es with
  | []=>Q [] σ
  | e::r=>wpE T n F e m σ fun v σ1=>wpEs T n F r m σ1 fun vs σ2=>Q (v::vs) σ2
noncomputable def wpO(T:Tabs):Nat->Fra->Option Expr->Loc->List O->(V->List O->Prop)->Prop
 | 0,_,_,_,_,_=>False
 | n+1,F,e,m,σ,Q=>match e with
  | none=>Q .none σ
  | some e=>wpE T n F e m σ Q
noncomputable def wpD(T:Tabs):Nat->Fra->List (Option Expr)->List Expr->Loc->List O->(List V->List V->List O->Prop)->Prop
 | 0,_,_,_,_,_,_=>False
 | n+1,F,ks,es,m,σ,Q=>match ks with
  | []=>yX es.isEmpty (Q [] [] σ)
  | k::ks=>yB k fun k=>consW es fun e es=>wpE T n F k m σ fun a σ1=>wpE T n F e m σ1 fun b σ2=>wpD T n F ks es m σ2 fun us vs σ3=>Q (a::us) (b::vs) σ3
noncomputable def wpK(T:Tabs):Nat->Fra->Expr->Expr->List V->List O->(V->V)->Prop
 | 0,_,_,_,_,_,_=>False
 | n+1,F,e,t,items,σ,f=>∀ v∈items,yB (vC t v) fun m'=>xO F m'=true/\wpE T n F e (xN [] m') σ fun u σ'=>u=f v/\σ'=σ
noncomputable def wpL(T:Tabs):Nat->Fra->Expr->Expr->List V->Loc->List O->(List V->List O->Prop)->Prop
 | 0,_,_,_,_,_,_,_=>False
 | n+1,F,e,t,items,m,σ,Q=>match items with
  | []=>Q [] σ
  | x::r=>yB (vC t x) fun m'=>xO F m'=true/\wpE T n F e (xN [] m') σ fun v σ1=>wpL T n F e t r m σ1 fun vs σ2=>Q (v::vs) σ2
noncomputable def wpT(T:Tabs):Nat->Fra->Expr->Loc->List O->(Bool->List O->Prop)->Prop
 | 0,_,_,_,_,_=>False
 | n+1,F,e,m,σ,Q=>optW (asNot e) (fun x=>wpT T n F x m σ fun b σ1=>Q (!b) σ1)<|match e with
   | .BoolOp op es _=>wpA T n F op es m σ Q
   | .IfExp _ _ _ _=>False
   | .Compare l ops rs _=>wpE T n F l m σ fun a σ1=>wpC T n F ops rs a m σ1 Q
   | e=>wpE T n F e m σ fun a σ1=>vF a fun b=>Q b σ1
noncomputable def wpA(T:Tabs):Nat->Fra->BoolOp->List Expr->Loc->List O->(Bool->List O->Prop)->Prop
 | 0,_,_,_,_,_,_=>False
 | n+1,F,op,es,m,σ,Q=>match es with
  | []=>Q (op==.And) σ
  | x::r=>wpT T n F x m σ fun b σ1=>match op with
   | .And=>ifB b (wpA T n F op r m σ1 Q) (Q false σ1)
   | .Or=>ifB b (Q true σ1) (wpA T n F op r m σ1 Q)
noncomputable def wpB(T:Tabs):Nat->Fra->BoolOp->List Expr->Loc->List O->(V->List O->Prop)->Prop
 | 0,_,_,_,_,_,_=>False
 | n+1,F,op,es,m,σ,Q=>match es with
  | []=>False
  | x::r=>match r with
   | []=>wpE T n F x m σ Q
   | _=>wpE T n F x m σ fun a σ1=>vF a fun b=>match op with
    | .And=>ifB b (wpB T n F op r m σ1 Q) (Q a σ1)
    | .Or=>ifB b (Q a σ1) (wpB T n F op r m σ1 Q)
noncomputable def wpC(T:Tabs):Nat->Fra->List CmpOp->List Expr->V->Loc->List O->(Bool->List O->Prop)->Prop
 | 0,_,_,_,_,_,_,_=>False
 | n+1,F,ops,rs,a,m,σ,Q=>consW ops fun op ops=>consW rs fun r rs=>match ops with
  | []=>yX rs.isEmpty (wpE T n F r m σ fun b σ1=>cmpQ op σ1 a b fun c=>Q c σ1)
  | _=>yX (!rs.isEmpty) (wpE T n F r m σ fun b σ1=>cmpQ op σ1 a b fun c=>ifB c (wpC T n F ops rs b m σ1 Q) (Q false σ1))
noncomputable def wpF(T:Tabs):Nat->Addr->List V->List O->(V->List O->Prop)->Prop
 | 0,_,_,_,_=>False
 | n+1,f,args,σ,Q=>yB (T.fns.lookup f) fun fi=>optW (T.specs.lookup f) (fun sp=>sp args σ Q) <|
  yB (bindA fi.params args fi.dfl) fun bs=>yB (bindF ⟨fi.scope.names,cellsFrom σ.length fi.scope.names [],none⟩ bs [] (σ++xE fi.scope.names)) fun mσ =>
   zI T n ⟨fi.scope.names,cellsFrom σ.length fi.scope.names [],none⟩ fi.body mσ.1 mσ.2 fun fl _ σ'=>match fl with
    | .ret v=>Q v σ'
    | .next=>Q .none σ'
    | _=>False
noncomputable def wpG(T:Tabs):Nat->Fra->Expr->V->Loc->List O->(Loc->List O->Prop)->Prop
 | 0,_,_,_,_,_,_=>False
 | n+1,F,t,v,m,σ,Q=>match t with
  | .Name x _=>yB (F.names.lookup x) fun k=>match k with
   | .local=>Q (updL m x v) σ
   | .cell=>yB (F.cells.lookup x) fun i=>yB (σ[i]?.bind oCel) fun _=>Q m (σ.set i (.cell (some v)))
   | _=>False
  | .Tuple ts _ _=>yB (jO v) fun vs=>yX (vs.length==ts.length&&ts.all kW) (wpGs T n F ts vs m σ Q)
  | .Attribute o x _=>wpE T n F o m σ fun a σ1=>setAttrQ σ1 T a x v fun σ2=>Q m σ2
  | .Subscript o i _=>wpE T n F o m σ fun a σ1=>wpE T n F i m σ1 fun b σ2=>setItemQ σ2 a b v fun σ3=>Q m σ3
  | _=>False
noncomputable def wpGs(T:Tabs):Nat->Fra->List Expr->List V->Loc->List O->(Loc->List O->Prop)->Prop
 | 0,_,_,_,_,_,_=>False
 | n+1,F,ts,vs,m,σ,Q=>match ts with
  | []=>Q m σ
  | t::ts=>consW vs fun v vs=>wpG T n F t v m σ fun m1 σ1=>wpGs T n F ts vs m1 σ1 Q
noncomputable def wpS(T:Tabs):Nat->Fra->Stmt->Loc->List O->(Fl->Loc->List O->Prop)->Prop
 | 0,_,_,_,_,_=>False
 | n+1,F,st,m,σ,Q=>match st with
  | .Assign ts e _=>oneW ts fun t=>optW (compAsg F t e) (fun y=>wpE T n F e m σ fun v σ1=>Q .next (updL m y v) σ1) <|
   yX (notComp e)<|wpE T n F e m σ fun v σ1=>yB (swpOf F t e) fun o=>optW o
    (fun ns=>yB (jO v) fun vs=>yX (vs.length==ns.length&&xO F (ns.reverse.zip vs.reverse)) (Q .next (xN m (ns.reverse.zip vs.reverse)) σ1))
    (wpG T n F t v m σ1 fun m1 σ2=>Q .next m1 σ2)
  | .AugAssign t op e _=>yB (qJ t) fun x=>match op with
   | .Add=>yX (F.names.lookup x==some .local)<|nameP T F m σ x fun a=>wpE T n F e m σ fun b σ1=>yB (zL a) fun i=>yB (zL b) fun j=>Q .next (updL m x (.int (i+j))) σ1
   | _=>False
  | .Expr e _=>yX (notComp e)<|wpE T n F e m σ fun v σ1=>yX (isNone v) (Q .next m σ1)
  | .Return e _=>match e with
   | some e=>wpE T n F e m σ fun v σ1=>Q (.ret v) m σ1
   | none=>Q (.ret .none) m σ
  | .If t b o _=>wpT T n F t m σ fun c σ1=>ifB c (zI T n F b m σ1 Q) (zI T n F o m σ1 Q)
  | .While t b o p=>yX o.isEmpty<|ifW (T.unroll.contains p.line) (wpW T n F t b m σ Q) <|
   ∃ I:Nat->Loc->List O->Prop,∃ k,I k m σ/\∀ k m σ,I k m σ->wpT T n F t m σ fun c σ1=>ifB c (zI T n F b m σ1 fun fl m2 σ2=>match fl with
     | .next=>∃ k',k' < k/\I k' m2 σ2
     | .cont=>∃ k',k' < k/\I k' m2 σ2
     | .brk=>Q .next m2 σ2
     | .ret v=>Q (.ret v) m2 σ2) (Q .next m σ1)
  | .For t it b o p=>yX o.isEmpty<|optW (kI it) (fun e=>(nameP T F m σ "enumerate" fun v=>v=.ty "enumerate")/\yX (kW e&&isTupE t) (wpE T n F e m σ fun a σ1=>yB (qE a) fun vs=>wpX T n F p.line t (kS vs) b m σ1 Q)) <|
   wpE T n F it m σ fun a σ1=>yB (kX a) fun vs=>wpX T n F p.line t vs b m σ1 Q
  | .Try b _ o f _=>yX (o.isEmpty&&f.isEmpty)<|zI T n F b m σ fun fl m1 σ1=>match fl with
   | .ret v=>Q (.ret v) m1 σ1
   | _=>False
  | _=>False
noncomputable def zI(T:Tabs):Nat->Fra->List Stmt->Loc->List O->(Fl->Loc->List O->Prop)->Prop
 | 0,_,_,_,_,_=>False
 | n+1,F,ss,m,σ,Q=>match ss with
  | []=>Q .next m σ
  | s::r=>wpS T n F s m σ fun fl m1 σ1=>match fl with
   | .next=>zI T n F r m1 σ1 Q
   | fl=>Q fl m1 σ1
noncomputable def wpW(T:Tabs):Nat->Fra->Expr->List Stmt->Loc->List O->(Fl->Loc->List O->Prop)->Prop
 | 0,_,_,_,_,_,_=>False
 | n+1,F,t,b,m,σ,Q=>wpT T n F t m σ fun c σ1=>ifB c (zI T n F b m σ1 fun fl m2 σ2=>match fl with
   | .next=>wpW T n F t b m2 σ2 Q
   | .cont=>wpW T n F t b m2 σ2 Q
   | .brk=>Q .next m2 σ2
   | .ret v=>Q (.ret v) m2 σ2) (Q .next m σ1)
noncomputable def wpX(T:Tabs):Nat->Fra->Nat->Expr->List V->List Stmt->Loc->List O->(Fl->Loc->List O->Prop)->Prop
 | 0,_,_,_,_,_,_,_,_=>False
 | n+1,F,ln,t,items,b,m,σ,Q=>ifW (T.unroll.contains ln)
  (match items with
   | []=>Q .next m σ
   | x::r=>yB (vC t x) fun bs=>xO F bs=true/\zI T n F b (xN m bs) σ fun fl m2 σ2=>match fl with
     | .next=>wpX T n F ln t r b m2 σ2 Q
     | .cont=>wpX T n F ln t r b m2 σ2 Q
     | .brk=>Q .next m2 σ2
     | .ret v=>Q (.ret v) m2 σ2)
  (∃ I:Nat->Loc->List O->Prop,I 0 m σ/\(∀ k x m σ,items[k]?=some x->I k m σ->yB (vC t x) fun bs=>xO F bs=true/\zI T n F b (xN m bs) σ fun fl m2 σ2=>match fl with
     | .next=>I (k+1) m2 σ2
     | .cont=>I (k+1) m2 σ2
     | .brk=>Q .next m2 σ2
     | .ret v=>Q (.ret v) m2 σ2)/\∀ m σ,I items.length m σ->Q .next m σ)
end
end Mine
end
section
set_option tactic.hygienic false
namespace Mine
theorem runs_size{M:Model}{Γ:Ctx}{p:Pos}{t:Sem Fin}{fs:List Frame}{s s':Shared}{e:End}(h:Runs M Γ p t fs s e s'):s.heap.objs.size<=s'.heap.objs.size:=by
 have upd:∀ (h:Heap) (a:Addr) (f:Obj->Obj),(h.update a f).objs.size=h.objs.size:=fun h a f=>(Heap.SameBut.update h a f).1;have psh:∀ (h:Heap) (o:Obj),(h.push o).objs.size=h.objs.size+1:=fun h o=>Heap.size_push h o;induction h <;> (try simp only [Shared.setGen,upd,psh] at *) <;> lia
theorem wakes_size{M:Model}{Γ:Ctx}{p:Pos}{g:Nat}{r:Resume}{s s':Shared}{res:GenResult}(h:Wakes M Γ p g r s res s'):s.heap.objs.size<=s'.heap.objs.size:=by
 unfold Wakes at h;split at h
 ·exact h.elim
 ·split at h
  ·obtain ⟨e₁,s₁,hr,_,_,rfl⟩:=h;exact (runs_size hr:(s.setGen g .running).heap.objs.size<=s₁.heap.objs.size)
  ·refine rwp h.2 ?_;exact Nat.le_refl _
  ·refine rwp h.2 ?_;exact Nat.le_refl _
 ·obtain ⟨e₁,s₁,hr,_,_,rfl⟩:=h;exact (runs_size hr:(s.setGen g .running).heap.objs.size<=s₁.heap.objs.size)
 ·refine rwp h.2 ?_;exact Nat.le_refl _
 ·refine rwp h.2 ?_;exact Nat.le_refl _
theorem wp_size{α:Type}(M:Model)(Γ:Ctx)(n:Nat)(t:Sem α):∀ (Q:α->Pos->Shared->Prop) (E:Value->Pos->Shared->Prop) (p:Pos) (s:Shared),n<=s.heap.objs.size->Sem.wp M Γ t Q E p s ->
  Sem.wp M Γ t (fun a p' s'=>n<=s'.heap.objs.size/\Q a p' s') (fun e p' s'=>n<=s'.heap.objs.size/\E e p' s') p s:=by
 induction t with
 | pure a=>intro Q E p s hn h;exact ⟨hn,h⟩
 | raise e=>intro Q E p s hn h;exact ⟨hn,h⟩
 | rule _ k ih=>intro Q E p s hn h;exact ih () Q E p s hn h
 | «at» p' k ih=>intro Q E p s hn h;exact ih () Q E p' s hn h
 | load a _ k ih=>intro Q E p s hn h;obtain ⟨o,ho,h⟩:=h;exact ⟨o,ho,ih o Q E p s hn h⟩
 | update a _ f k ih =>
  intro Q E p s hn h;exact ⟨h.1,ih () Q E p { s with heap:=s.heap.update a f } (by show n<=(s.heap.update a f).objs.size;rw [(Heap.SameBut.update s.heap a f).1];exact hn) h.2⟩
 | loadIfAlive a k ih=>intro Q E p s hn h;exact ih _ Q E p s hn h
 | point _ k ih=>intro Q E p s hn h;exact ih () Q E p s hn h
 | alloc o k ih =>
  intro Q E p s hn h;exact ih _ Q E p { s with heap:=s.heap.push o } (by show n<=(s.heap.push o).objs.size;rw [Heap.size_push];lia) h
 | fresh k ih=>intro Q E p s hn h;exact ih _ Q E p { s with toks:=s.toks+1 } hn h
 | ask k ih=>intro Q E p s hn h;exact ih _ Q E p s hn h
 | choose src m k ih=>intro Q E p s hn h;exact ⟨h.1,ih _ Q E p { s with drawn:=s.drawn.bump src } hn h.2⟩
 | os q _ k ih=>intro Q E p s hn h;exact ih _ Q E p { s with os:=(Os.step s.os q).1 } hn h
 | call c hd _ _ k ih=>intro Q E p s hn h;obtain ⟨r,s',hr,h⟩:=h;exact ⟨r,s',hr,ih r Q E p s' (Nat.le_trans hn (runs_size hr)) h⟩
 | handled own k ih=>intro Q E p s hn h;exact ih _ Q E p s hn h
 | genState g k ih=>intro Q E p s hn h;obtain ⟨st,hs,h⟩:=h;exact ⟨st,hs,ih _ Q E p s hn h⟩
 | newGen c k ih=>intro Q E p s hn h;exact ih _ Q E p { s with gens:=s.gens.push (.fresh c) } hn h
 | resume g r _ k ih=>intro Q E p s hn h;obtain ⟨res,s',hw,h⟩:=h;exact ⟨res,s',hw,ih res Q E p s' (Nat.le_trans hn (wakes_size hw)) h⟩
 | stack k ih=>intro Q E p s hn h;exact ih _ Q E p s hn h
 | thread k ih=>intro Q E p s hn h;exact ih _ Q E p s hn h
 | _=>intro Q E p s _ h;exact h
theorem wpAny_size{α:Type}{M:Model}{A:Around}{s:Shared}{t:Sem α}{Q:α->Shared->Prop}{E:Value->Shared->Prop}
  (h:wpAny M A t (fun a s'=>s.heap.objs.size<=s'.heap.objs.size->Q a s') E s):wpAny M A t Q E s :=
 fun Γ p hΓ=>Sem.wp_mono M Γ t (fun _ _ _ x=>x.2 x.1) (fun _ _ _ x=>x.2) p s (wp_size M Γ _ t _ _ p s (Nat.le_refl _) (h Γ p hΓ))
structure ClsOk(K:Frag)(c:Addr)(ci:Addr×List (Str×Addr)×List Str):Prop where
 makes:makesIn K c=true
 init:findIn K (.ref c) "__init__" = some (some (.ref ci.1))
 initFn:typeIn K (.ref ci.1)=some (.type "function")
 get:plainGet K c "" = true
 set:findIn K (.ref c) "__setattr__" = some (some (.builtin "object.__setattr__"))
 over:plainOver K c=true
 hd:hasDictIn K c=true
 attrs:∀ x,ci.2.2.contains x=true->findIn K (.ref c) x=some none
 meths:∀ x f,ci.2.1.lookup x=some f->findIn K (.ref c) x=some (some (.ref f))/\typeIn K (.ref f)=some (.type "function")
structure AOk(r:Nat)(A:Around):Prop where
 depth:A.depth+r<=990
 units:A.units+8*r<=9000
 handled:A.handled=none
 guards:A.guards=some []
theorem AOk.less{r r' A}(x:AOk r A)(h:r'<=r):AOk r' A:=⟨by have:=x.depth;lia,by have:=x.units;lia,x.handled,x.guards⟩
theorem AOk.room{r A}(x:AOk r A):A.depth < recursionLimit:=by have:=x.depth;have:recursionLimit=1000:=rfl;lia
theorem AOk.deeper{r A}{env:Env}(x:AOk (r+1) A):AOk r (A.deeper env):=⟨by have:=x.depth;show A.depth+1+r<=990;lia,by have:=x.units;show A.units+3+8*r<=9000;lia,x.handled,x.guards⟩
noncomputable def noE:Value->Shared->Prop:=fun _ _=>False
inductive PG(w:World)(own ρ:List Addr)(s:Shared)(Q:V->Prop)(v:Value)(s':Shared):Prop
 | mk (c:V) (g:Grow s s') (d:Den w own ρ s'.heap c v) (q:Q c)
inductive PV(w:World)(own:List Addr)(L:Addr)(ρ:List Addr)(m:Loc)(s:Shared)(Q:V->List O->Prop)(v:Value)(s':Shared):Prop
 | mk (own' ρ':List Addr) (c:V) (σ':List O) (x:Step own L ρ s own' ρ' s') (S:Sat w own' L ρ' m σ' s'.heap) (d:Den w own' ρ' s'.heap c v) (q:Q c σ')
inductive PL(w:World)(own:List Addr)(L:Addr)(ρ:List Addr)(m:Loc)(s:Shared)(Q:List V->List O->Prop)(v:List Value)(s':Shared):Prop
 | mk (own' ρ':List Addr) (c:List V) (σ':List O) (x:Step own L ρ s own' ρ' s') (S:Sat w own' L ρ' m σ' s'.heap) (d:DenL w own' ρ' s'.heap c v) (q:Q c σ')
inductive PB(w:World)(own:List Addr)(L:Addr)(ρ:List Addr)(m:Loc)(s:Shared)(Q:Bool->List O->Prop)(b:Bool)(s':Shared):Prop
 | mk (own' ρ':List Addr) (σ':List O) (x:Step own L ρ s own' ρ' s') (S:Sat w own' L ρ' m σ' s'.heap) (q:Q b σ')
noncomputable def FlD(w:World)(own ρ:List Addr)(h:Heap):Fl->Flow->Prop
 | .next,f=>f=.next
 | .brk,f=>f=.brk
 | .cont,f=>f=.cont
 | .ret c,f=>∃ v,f=.ret v/\Den w own ρ h c v
inductive PF(w:World)(own:List Addr)(L:Addr)(ρ:List Addr)(s:Shared)(Q:Fl->Loc->List O->Prop)(f:Flow)(s':Shared):Prop
 | mk (own' ρ':List Addr) (fl:Fl) (m':Loc) (σ':List O) (x:Step own L ρ s own' ρ' s') (S:Sat w own' L ρ' m' σ' s'.heap) (d:FlD w own' ρ' s'.heap fl f) (q:Q fl m' σ')
inductive PU(w:World)(own:List Addr)(L:Addr)(ρ:List Addr)(s:Shared)(Q:Loc->List O->Prop)(u:Unit)(s':Shared):Prop
 | mk (own' ρ':List Addr) (m':Loc) (σ':List O) (x:Step own L ρ s own' ρ' s') (S:Sat w own' L ρ' m' σ' s'.heap) (q:Q m' σ')
structure Stat(K:Frag)(mb:Str->Option Value)(own:List Addr)(h:Heap):Prop where
 k:∀ a o,K.lookup a=some o->h.get? a=some o/\a∉own
 g:∃ o,K.lookup mainGlobals=some o
 b:h.Ns builtinsNs mb
 nb:builtinsNs∉own
 lim:h.NoLimit
 nl:cStatics∉own
 sm:sysModules∉own/\sysModules < h.objs.size
 dig:∃ mc,h.Ns cStatics mc/\mc "sys.int_max_str_digits" = none
 bm:∃ mg bm ob,h.Ns mainGlobals mg/\mg "__builtins__" = some (.ref bm)/\bm≠builtinsNs/\bm≠mainGlobals/\bm∉own/\h.get? bm=some ob/\ob.cls=.type "module" /\ ob.dict=some builtinsNs/\ob.data=.plain
theorem Stat.gn{K mb own h}(x:Stat K mb own h):mainGlobals∉own:=let ⟨o,ho⟩:=x.g;(x.k _ o ho).2
theorem Stat.in{K mb own h}(x:Stat K mb own h):K.In h:=fun a o e=>(x.k a o e).1
theorem Stat.ev{K mb own h own' h'}(x:Stat K mb own h)(k:Ev own h own' h')(n:∀ a,a < h.objs.size->a∉own->a∉own')(z:h.objs.size<=h'.objs.size):Stat K mb own' h':=by
 refine ⟨fun a o e=>k a o (x.k a o e).1 (x.k a o e).2,x.g,?_,?_,?_,?_,⟨n _ x.sm.2 x.sm.1,Nat.lt_of_lt_of_le x.sm.2 z⟩,?_,?_⟩
 ·obtain ⟨o,es,ep,e,r⟩:=x.b;exact ⟨o,es,ep,(k _ _ e x.nb).1,r⟩
 ·exact n _ x.b.lt x.nb
 ·obtain ⟨mc,⟨o,es,ep,e,r⟩,q⟩:=x.lim;exact ⟨mc,⟨o,es,ep,(k _ _ e x.nl).1,r⟩,q⟩
 ·obtain ⟨mc,n',_⟩:=x.lim;exact n _ n'.lt x.nl
 ·obtain ⟨mc,⟨o,es,ep,e,r⟩,q⟩:=x.dig;exact ⟨mc,⟨o,es,ep,(k _ _ e x.nl).1,r⟩,q⟩
 ·apply gk;intro J;obtain ⟨mg,bm,ob,⟨o,es,ep,e,r⟩,e1,e2,e3,e4,e5,e6⟩:=x.bm;apply J;clear J;exact ⟨mg,bm,ob,⟨o,es,ep,(k _ _ e x.gn).1,r⟩,e1,e2,e3,(k _ _ e5 e4).2,(k _ _ e5 e4).1,e6⟩
structure EnvOk(K:Frag)(env:Env)(F:Fra)(L:Addr)(ρ:List Addr):Prop where
 kind:env.scope.kind=.function
 names:env.scope.names=F.names
 locals:env.locals=L
 globals:env.globals=mainGlobals
 builtins:env.builtins=builtinsNs
 cells:∀ x i,F.cells.lookup x=some i->∃ c,env.cells.lookup x=some c/\ρ[i]?=some c
 lam:∀ q,F.lam=some q->env.qual=q/\∃ c P,env.code=.ref c/\ρ[0]?=some P/\codeHdIn K c P=true
theorem EnvOk.pre{K env F L ρ ρ'}(x:EnvOk K env F L ρ)(r:∀ (i:Nat) (a:Addr),ρ[i]?=some a->ρ'[i]?=some a):EnvOk K env F L ρ' :=
 ⟨x.kind,x.names,x.locals,x.globals,x.builtins,fun y i e=>let ⟨c,a,b⟩:=x.cells y i e;⟨c,a,r i c b⟩,fun q e=>let ⟨h1,c,P,h2,h3,h4⟩:=x.lam q e;⟨h1,c,P,h2,r _ _ h3,h4⟩⟩
theorem EnvOk.kindOf{K env F L ρ}(x:EnvOk K env F L ρ)(y:Str):env.kindOf y=F.names.lookup y:=by unfold Env.kindOf;rw [x.names]
variable{prog:Program}{w:World}{K:Frag}{mb:Str->Option Value}{A:Around}{own ρ:List Addr}{L:Addr}{m:Loc}{σ:List O}{s:Shared}{r:Nat}
end Mine
end
section
set_option tactic.hygienic false
namespace Mine
section
variable{prog:Program}{w:World}{K:Frag}{mb:Str->Option Value}{A:Around}{own ρ:List Addr}{L:Addr}{m:Loc}{σ:List O}{s:Shared}{r:Nat}{T:Tabs}
theorem PG.int{Q:V->Prop}{i:Int}(h:Q (.int i)):PG w own ρ s Q (.int i s.toks) { s with toks:=s.toks+1 }:=⟨.int i,Grow.tok _ _,⟨_,rfl⟩,h⟩
theorem PG.bytes{Q:V->Prop}{b:List UInt8}{t k:Tok}(h:Q (.bytes b)):PG w own ρ s Q (.bytes b.toArray t) { s with toks:=k }:=⟨.bytes b,Grow.tok _ _,⟨_,rfl⟩,h⟩
theorem PG.lst{Q:V->Prop}{vs:List V}{ys:List Value}{n:Nat}(hl:∀ a∈own,a < s.heap.objs.size)(d:DenL w own ρ s.heap vs ys)(h:Q (.lst vs)):PG w own ρ s Q (.ref s.heap.objs.size) { s with heap:=s.heap.push (listOf ys.toArray n) } :=
 ⟨.lst vs,Grow.push s _ s.toks,⟨_,ys.toArray,n,rfl,fun q=>Nat.lt_irrefl _ (hl _ q),Heap.get?_push_size _ rfl,d.grow fun _ _ e=>Heap.get?_push_of_some _ e⟩,h⟩
theorem DenL.rep{h:Heap}{xs:List V}{ys:List Value}(d:DenL w own ρ h xs ys):∀ n,DenL w own ρ h (List.replicate n xs).flatten (List.replicate n ys).flatten:=by
 intro zv;induction zv with
 | zero =>
  exact rfl
 | succ n ih =>
  refine rwp List.replicate_succ ?_;refine rwp List.replicate_succ ?_;refine rwp List.flatten_cons ?_;refine rwp List.flatten_cons ?_;exact DenL.append d (ih)
theorem foldl_rep(its:Array Value)(n:Nat):List.foldl (fun x1 x2=>x1++x2) #[] (List.replicate n its)=((List.replicate n its.toList).flatten).toArray:=by
 have key:∀ (n:Nat) (acc:Array Value),List.foldl (fun x1 x2=>x1++x2) acc (List.replicate n its)=acc++((List.replicate n its.toList).flatten).toArray:=fun n=>by
  induction n with
  | zero=>intro acc;simp
  | succ n ih=>intro acc;refine rwp List.replicate_succ ?_;refine rwp List.foldl_cons ?_;rw [ih];refine rwp List.replicate_succ ?_;refine rwp List.flatten_cons ?_;apply Array.toList_inj.mp;simp
 rw [key];simp
theorem binP_ok{op:Operator}{a b:V}{va vb:Value}{Q:V->Prop}(hA:AOk r A)(hl:∀ a∈own,a < s.heap.objs.size)(h:BinP Q op a b)(da:Den w own ρ s.heap a va)(db:Den w own ρ s.heap b vb) :
  wpAny (model prog w) A (binaryOp op va vb) (PG w own ρ s Q) noE s:=by
 cases h with
 | @c0 _ _ h =>
  obtain ⟨t,rfl⟩:=da;obtain ⟨u,rfl⟩:=db;exact P.add_int (PG.int h)
 | @c1 _ _ h =>
  obtain ⟨t,rfl⟩:=da;obtain ⟨u,rfl⟩:=db;exact P.sub_int (PG.int h)
 | @c2 _ _ h =>
  obtain ⟨t,rfl⟩:=da;obtain ⟨u,rfl⟩:=db;refine P.mul_int (PG.int h.2) ?_;rcases h.1 with h1 | h1
  ·exact IntMulOk.of_left (intBits_le_64 h1.1 h1.2)
  ·exact IntMulOk.of_right (intBits_le_64 h1.1 h1.2)
 | @c3 x y h =>
  obtain ⟨t,rfl⟩:=da;obtain ⟨u,rfl⟩:=db;obtain ⟨h0,h1,h⟩:=h;refine floordiv_int (by lia) ?_ (.inl (PyProof.noPylong_small (by grind only)));refine rwp (Int.fdiv_eq_ediv_of_nonneg _ (by exact Int.le_of_lt (by assumption))) ?_;exact PG.int h
 | @c4 x y h =>
  obtain ⟨t,rfl⟩:=da;obtain ⟨u,rfl⟩:=db;obtain ⟨h0,h⟩:=h;refine mod_int' (by lia) ?_;refine rwp (Int.fmod_eq_emod_of_nonneg _ (by lia)) ?_;exact PG.int h
 | @c5 _ _ h =>
  obtain ⟨t,rfl⟩:=da;obtain ⟨u,rfl⟩:=db;obtain ⟨rfl,rfl,h⟩:=h;refine pow_int_small (by simp_all) (by simp_all) (by decide) ?_;exact PG.int h
 | @c6 x y h =>
  obtain ⟨t,rfl⟩:=da;obtain ⟨u,rfl⟩:=db;refine KBy.add_bytes (b:=x.toArray) (c:=y.toArray) (by simpa [big] using h.1) fun t' k=>?_;rw [List.append_toArray];exact PG.bytes h.2
 | @c7 x y h =>
  obtain ⟨t,rfl⟩:=da;obtain ⟨u,rfl⟩:=db;obtain ⟨h1,h2,h3,h4,h⟩:=h;exact bytes_mul_any (b:=x) h1 (by lia) (by lia) h2 fun t' k=>PG.bytes h
 | @c8 x y h =>
  obtain ⟨a1,i1,n1,rfl,o1,g1,d1⟩:=da;obtain ⟨a2,i2,n2,rfl,o2,g2,d2⟩:=db;have l1:=d1.length;have l2:=d2.length;simp only [Array.length_toList] at l1 l2;refine concat_meets ⟨_,g1,rfl⟩ ⟨_,g2,rfl⟩ noFill_list_add seq_list_add PySem.F.slot_list_add PySem.F.entry_list_add (PySem.F.args_list_add_2 _ _) (list_addW a1 a2 i1 i2 n1 n2 none none #[] #[] (by refine rwp l1 ?_;refine rwp l2 ?_;refine rwp sizeLine_eq ?_;exact h.1)) ⟨g1,g2,?_⟩;have e:i1++i2=(i1.toList++i2.toList).toArray:=by simp
  refine rwp e ?_;exact PG.lst hl (DenL.append d1 d2) h.2
 | @c9 x y h =>
  obtain ⟨a1,i1,n1,rfl,o1,g1,d1⟩:=da;obtain ⟨u,rfl⟩:=db;obtain ⟨h1,h2,h3,h4,h⟩:=h;have l1:=d1.length;simp only [Array.length_toList] at l1;have h5:i1.size*y.toNat<=16777216:=by refine rwp l1 ?_;exact h4
  have hne:i1.isEmpty=false:=by
   induction x using List.casesOn with
   | nil=>exact absurd rfl h1
   | cons=>rw [Array.isEmpty_eq_false_iff];intro z;rw [z] at l1;cases l1
  refine wpAny_binaryOp_repeat_ref (T := "list") (U := "int") (by decide) ⟨_,g1,rfl⟩ (fun s'=>typeIs_int s' y u) noFill_list_mul F.fills_int_mul F.slot_int_rmul repeat_list F.slot_int_index.lookup
   (call_meets F.slot_int_rmul (typeIs_int s y u) F.entry_int_rmul (F.args_int_rmul_2 _ _) (int___rmul___int_list y u a1 i1 n1)
   ⟨g1,rfl,⟨_,g1,rfl⟩,call_meets F.slot_list_mul ⟨_,g1,rfl⟩ F.entry_list_mul (F.args_list_mul_2 _ _)
    (AutoListH.list___mul___list_int_3 a1 i1 n1 y u (by simp [Builtin.List.listFitsIndex];lia) (by grind only) (by simp [Builtin.List.listTooLong,sizeLine];exact h5))
    ⟨g1,?_⟩⟩)
  refine rwp hne ?_;refine rwp (if_neg (by simp)) ?_;rw [foldl_rep];exact PG.lst hl (d1.rep _) h
theorem iadd_ok{i j:Int}{t u:Tok}{Q:Value->Shared->Prop}(h:Q (.int (i+j) s.toks) { s with toks:=s.toks+1 }):wpAny (model prog w) A (inplaceOp .Add (.int i t) (.int j u)) Q noE s:=P.iadd_int h
theorem neg_ok{i:Int}{t:Tok}{Q:Value->Shared->Prop}(h:Q (.int (-i) s.toks) { s with toks:=s.toks+1 }):wpAny (model prog w) A (unaryOp .USub (.int i t)) Q noE s:=P.neg_int h
end
end Mine
end
section
set_option tactic.hygienic false
set_option backward.match.sparseCases false
namespace Mine
section
variable{prog:Program}{w:World}{K:Frag}{mb:Str->Option Value}{A:Around}{own ρ:List Addr}{L:Addr}{m:Loc}{σ:List O}{s:Shared}{r:Nat}{T:Tabs}
mutual
noncomputable def pyV:V->PyData
 | .int i=>.int i
 | .tup vs=>.tuple (pyL vs)
 | .lst vs=>.list (pyL vs)
 | _=>.none
noncomputable def pyL:List V->List PyData
 | []=>[]
 | x::xs=>pyV x::pyL xs
end
theorem rd_of{h:Heap}{v u:Value}{d:PyData}{as:List Addr}(e:v=u)(r:Reads h u d as):Reads h v d as:=e ▸ r
theorem plain_el{P:V->Prop}{n:Nat}{a:V}(hp:qT n a=true)(hi:∀ i,P (.int i))(ht:∀ k vs,n=k+1->zV k vs=true->P (.tup vs))(hl:∀ k vs,n=k+1->zV k vs=true->P (.lst vs)):P a:=by
 induction n using Nat.casesAuxOn with
 | zero=>induction a using Mine.V.casesOn with
  | int i=>exact hi i
  | _=>exact fne hp
 | succ k=>induction a using Mine.V.casesOn with
  | int i=>exact hi i
  | tup vs=>exact ht k vs rfl hp
  | lst vs=>exact hl k vs rfl hp
  | _=>exact fne hp
structure PyOk(w:World)(own ρ:List Addr)(h:Heap)(n:Nat)(a:V):Prop where
 rd:∀ v,Den w own ρ h a v->∃ as,Reads h v (pyV a) as
 lay:(pyV a).canLay0=true
 dep:(pyV a).depth<=n
 eq:∀ b r,qT n b=true->eqV a b=some r->PyData.eqv (pyV a) (pyV b)=r
structure PyOkL(w:World)(own ρ:List Addr)(h:Heap)(n:Nat)(a:List V):Prop where
 rd:∀ v,DenL w own ρ h a v->∃ as,ReadsAll h v (pyL a) as
 lay:PyData.canLayAll0 (pyL a)=true
 dep:PyData.depthAll (pyL a)<=n
 eq:∀ b r,zV n b=true->eqL a b=some r->PyData.eqvAll (pyL a) (pyL b)=r
theorem py_list{h:Heap}{n:Nat}(H:∀ a,qT n a=true->PyOk w own ρ h n a){vs:List V}:zV n vs=true->PyOkL w own ρ h n vs:=by
 induction vs with
 | nil =>
  refine fun _=>⟨fun v e=>⟨[],by refine rwp (show v=[] from e) ?_;exact .nil⟩,rfl,Nat.zero_le _,fun b r _ e=>?_⟩
  refine rwp (Option.some.inj e).symm ?_;induction b using List.casesOn <;> rfl
 | cons x xs ih =>
  intro hp;have hp:=Bool.and_eq_true_iff.mp hp;have X:=H x hp.1;have Y:=ih hp.2;refine ⟨fun v ⟨y,ys,e,d,dl⟩=>?_,Bool.and_eq_true_iff.mpr ⟨X.lay,Y.lay⟩,Nat.max_le.mpr ⟨X.dep,Y.dep⟩,fun b r hb e=>?_⟩
  ·obtain ⟨as,r⟩:=X.rd y d;obtain ⟨bs,r2⟩:=Y.rd ys dl;refine rwp e ?_;exact ⟨_,.cons r r2⟩
  ·induction b using List.casesOn with
   | nil=>refine rwp (Option.some.inj e).symm ?_;rfl
   | cons y ys =>
    have hb:=Bool.and_eq_true_iff.mp hb;refine xQ e fun q e1 e=>?_;show (PyData.eqv (pyV x) (pyV y)&&PyData.eqvAll (pyL xs) (pyL ys))=r
    refine rwp (X.eq y q hb.1 e1) ?_;induction q using Bool.casesOn with
    | false=>exact Option.some.inj e
    | true=>exact Y.eq ys r hb.2 e
theorem py_ok{h:Heap}{n:Nat}:∀ {a:V},qT n a=true->PyOk w own ρ h n a:=by
 have hi:∀ n i,PyOk w own ρ h n (.int i):=fun n i=>⟨fun v ⟨t,e⟩=>⟨_,rd_of e (.int i t)⟩,rfl,Nat.zero_le _,fun b r _ e=>xQ e fun y ey q=>by
  refine rwp (zJ ey) ?_;refine rwp (Option.some.inj q).symm ?_;exact Bool.beq_eq_decide_eq i y⟩
 induction n with
 | zero=>exact fun {a} hp=>plain_el hp (hi _) (fun k vs e=>nomatch e) fun k vs e=>nomatch e
 | succ n ih =>
  refine fun {a} hp=>plain_el hp (hi _) (fun k vs e h=>?_) fun k vs e h=>?_
  ·rw [<- Nat.succ.inj e] at h;have X:=py_list (fun a=>ih) h;exact ⟨fun v ⟨a,its,k,e,_,g,d⟩=>(X.rd _ d).elim fun as r=>⟨_,rd_of e (.tuple g rfl rfl r)⟩,X.lay,Nat.succ_le_succ X.dep,fun b r hb e=>xQ e fun ys ey q=>by
    rw [xG ey] at hb ⊢;exact X.eq ys r hb q⟩
  ·rw [<- Nat.succ.inj e] at h;have X:=py_list (fun a=>ih) h;exact ⟨fun v ⟨a,its,k,e,_,g,d⟩=>(X.rd _ d).elim fun as r=>⟨_,rd_of e (.list g rfl rfl r)⟩,X.lay,Nat.succ_le_succ X.dep,fun b r hb e=>xQ e fun ys ey q=>by
    rw [jA ey] at hb ⊢;exact X.eq ys r hb q⟩
theorem py_okL{h:Heap}{n:Nat}{vs:List V}(hp:zV n vs=true):PyOkL w own ρ h n vs:=py_list (fun _=>py_ok) hp
theorem AOk.u64(x:AOk r A):A.units+64 < cLine:=by have:=x.units;have:cLine=9900:=rfl;lia
theorem shaped_of{d:PyData}(h1:d.canLay0=true)(h2:d.depth<=10):SeqAt.shaped d=true:=by
 unfold SeqAt.shaped;rw [h1];simp;lia
inductive LstAt(w:World)(own ρ:List Addr)(h:Heap)(vs:List V)(v:Value):Prop
 | mk (l:Addr) (its:Array Value) (n:Nat) (e:v=.ref l) (g:h.get? l=some (listOf its n)) (d:DenL w own ρ h vs its.toList)
theorem qU{a:V}{va:Value}{vs:List V}(S:Sat w own L ρ m σ s.heap)(d:Den w own ρ s.heap a va)(h:yU σ a=some vs):LstAt w own ρ s.heap vs va:=by
 induction a using Mine.V.casesOn with
 | lst us =>
  refine rwp (Option.some.inj h).symm ?_;exact let ⟨l,its,n,e,_,g,dl⟩:=d;⟨l,its,n,e,g,dl⟩
 | loc i =>
  refine xQ h fun o e k=>?_;rw [oLst_of k] at e;obtain ⟨l,e1,hl⟩:=d;obtain ⟨o,g,its,n,e2,dl⟩:=S.objs i _ l e hl;exact ⟨l,its,n,e1,e2 ▸ g,dl⟩
 | _=>exact zK h
noncomputable abbrev EqAt(prog:Program)(w:World)(A:Around)(s:Shared)(va vb:Value)(c:Bool):Prop:=∀ R:Value->Shared->Prop,(R (.bool c) s->wpAny (model prog w) A (compareOp .Eq va vb) R noE s)/\(R (.bool (!c)) s->wpAny (model prog w) A (compareOp .NotEq va vb) R noE s)
theorem eq_data{va vb:Value}{x y:PyData}{as bs:List Addr}{c:Bool}(hA:AOk r A)(r1:Reads s.heap va x as)(r2:Reads s.heap vb y bs)(a1:x.canLay0=true)(a2:x.depth<=10)(b1:y.canLay0=true)(b2:y.depth<=10)(e:PyData.eqv x y=c):EqAt prog w A s va vb c:=fun R=>by
 subst e;exact ⟨fun hr=>eq_dataH r1 r2 (shaped_of a1 a2) (shaped_of b1 b2) hA.u64 hr,fun hr=>ne_dataH r1 r2 (shaped_of a1 a2) (shaped_of b1 b2) hA.u64 hr⟩
theorem eqP_ok{a b:V}{va vb:Value}{Q:Bool->Prop}(hA:AOk r A)(S:Sat w own L ρ m σ s.heap)(h:eqP σ a b Q)(da:Den w own ρ s.heap a va)(db:Den w own ρ s.heap b vb) :
  ∃ c,Q c/\EqAt prog w A s va vb c:=by
 cases h with
 | c0 h =>
  obtain ⟨t,ea⟩:=da;obtain ⟨u,eb⟩:=db;exact ⟨_,h,fun R=>by refine rwp ea ?_;refine rwp eb ?_;rw [<- Bool.beq_eq_decide_eq];exact ⟨fun hr=>P.eq_int hr,fun hr=>P.ne_int hr⟩⟩
 | c1 h =>
  obtain ⟨t,ea⟩:=da;obtain ⟨u,eb⟩:=db;exact ⟨_,h,fun R=>by refine rwp ea ?_;refine rwp eb ?_;rw [<- Bool.beq_eq_decide_eq];exact ⟨fun hr=>eq_bytes hr,fun hr=>ne_bytes hr⟩⟩
 | c2 h =>
  obtain ⟨t,ea⟩:=da;obtain ⟨u,eb⟩:=db;exact ⟨_,h,fun R=>by refine rwp ea ?_;refine rwp eb ?_;rw [<- Bool.beq_eq_decide_eq];exact ⟨fun hr=>eq_str hr,fun hr=>ne_str hr⟩⟩
 | c3 p1 p2 e q =>
  obtain ⟨l1,i1,n1,ea,_,g1,d1⟩:=da;obtain ⟨l2,i2,n2,eb,_,g2,d2⟩:=db;have X:=py_okL (w:=w) (own:=own) (ρ:=ρ) (h:=s.heap) p1;have Y:=py_okL (w:=w) (own:=own) (ρ:=ρ) (h:=s.heap) p2;obtain ⟨_,r1⟩:=X.rd _ d1;obtain ⟨_,r2⟩:=Y.rd _ d2;exact ⟨_,q,by refine rwp ea ?_;refine rwp eb ?_;exact eq_data hA (.tuple g1 rfl rfl r1) (.tuple g2 rfl rfl r2) X.lay (Nat.succ_le_succ X.dep) Y.lay (Nat.succ_le_succ Y.dep) (X.eq _ _ p2 e)⟩
 | c4 h1 h2 p1 p2 e q =>
  obtain ⟨l1,i1,n1,ea,g1,d1⟩:=qU S da h1;obtain ⟨l2,i2,n2,eb,g2,d2⟩:=qU S db h2;have X:=py_okL (w:=w) (own:=own) (ρ:=ρ) (h:=s.heap) p1;have Y:=py_okL (w:=w) (own:=own) (ρ:=ρ) (h:=s.heap) p2;obtain ⟨_,r1⟩:=X.rd _ d1;obtain ⟨_,r2⟩:=Y.rd _ d2;exact ⟨_,q,by refine rwp ea ?_;refine rwp eb ?_;exact eq_data hA (.list g1 rfl rfl r1) (.list g2 rfl rfl r2) X.lay (Nat.succ_le_succ X.dep) Y.lay (Nat.succ_le_succ Y.dep) (X.eq _ _ p2 e)⟩
end
end Mine
end
section
set_option tactic.hygienic false
set_option backward.match.sparseCases false
namespace Mine
section
variable{prog:Program}{w:World}{K:Frag}{mb:Str->Option Value}{A:Around}{own ρ:List Addr}{L:Addr}{m:Loc}{σ:List O}{s:Shared}{r:Nat}{T:Tabs}
theorem all_int{ns:List V}(h:ns.all isI=true):∃ is:List Int,ns=is.map V.int:=by
 induction ns with
 | nil=>exact ⟨[],rfl⟩
 | cons x xs ih =>
  have h:=Bool.and_eq_true_iff.mp h;obtain ⟨is,e⟩:=ih h.2;induction x using Mine.V.casesOn with
  | int i=>exact ⟨i::is,congrArg (V.int i::·) e⟩
  | _=>exact fne h.1
theorem eqL_int{is:List Int}:∀ {js:List Int},eqL (is.map V.int) (js.map V.int)=some (decide (is=js)):=by
 induction is with
 | nil=>intro js;induction js using List.casesOn <;> rfl
 | cons i is ih =>
  intro js;induction js using List.casesOn with
  | nil=>rfl
  | cons j js =>
   show (match decide (i=j) with | true=>eqL (is.map V.int) (js.map V.int) | false=>some false)=_
   rw [ih];by_cases e:i=j
   ·rw [decide_eq_true e,e];simp
   ·rw [decide_eq_false e,decide_eq_false fun q=>e (List.cons.inj q).1]
noncomputable def valI:Value->Option Int
 | .int i _=>some i
 | _=>none
theorem valI_of{v:Value}{i:Int}(h:valI v=some i):∃ t,v=.int i t:=by
 induction v using PySem.Value.casesOn with
 | int j t=>exact ⟨t,by rw [Option.some.inj h]⟩
 | _=>exact zK h
theorem den_int{h:Heap}{is:List Int}:∀ {l:List Value},DenL w own ρ h (is.map V.int) l->l.map valI=is.map some:=by
 induction is with
 | nil=>intro l e;refine rwp (show l=[] from e) ?_;rfl
 | cons i is ih=>intro l ⟨y,ys,e,⟨t,e1⟩,dl⟩;refine rwp e ?_;refine rwp List.map_cons ?_;refine rwp (ih dl) ?_;refine rwp e1 ?_;rfl
inductive IntAt(is:List Int)(j:Nat)(v:Value):Prop
 | mk (i:Int) (t:Tok) (h:is[j]?=some i) (e:v=.int i t)
theorem int_at{is:List Int}{l:List Value}{j:Nat}{v:Value}(d:l.map valI=is.map some)(h:l[j]?=some v):IntAt is j v:=by
 have e:=congrArg (·[j]?) d;simp only [List.getElem?_map,h,Option.map_some] at e;obtain ⟨i,h1,h2⟩:=Option.map_eq_some_iff.mp e.symm;obtain ⟨t,e2⟩:=valI_of h2.symm;exact ⟨i,t,h1,e2⟩
theorem int_len{is:List Int}{l:List Value}(d:l.map valI=is.map some):l.length=is.length:=by
 have e:=congrArg List.length d
 rwa [List.length_map,List.length_map] at e
theorem int_inj{is js:List Int}(e:is.map some=js.map some):is=js:=(List.map_inj_right fun _ _ h=>Option.some.inj h).mp e
inductive KAt(h:Heap):V->Value->Prop
 | s (x:Str) (t:Tok):KAt h (.str x) (.str x t)
 | b (x:List UInt8) (t:Tok):KAt h (.bytes x) (.bytes ⟨x⟩ t)
 | t (x:List UInt8) (is:List Int) (a:Addr) (n:Nat) (t:Tok) (r:Addr) (its:Array Value) (m:Nat) (ga:h.get? a=some (xX #[.bytes ⟨x⟩ t,.ref r] n)) (g:h.get? r=some (xX its m))
   (d:its.toList.map valI=is.map some):KAt h (.tup [.bytes x,.tup (is.map .int)]) (.ref a)
theorem key_at{h:Heap}{a:V}{v:Value}(k:keyV a=true)(d:Den w own ρ h a v):KAt h a v:=by
 induction a using Mine.V.casesOn with
 | str x=>have ⟨t,e⟩:=d;rw [e];exact .s x t
 | bytes x=>have ⟨t,e⟩:=d;rw [e];exact .b x t
 | tup l =>
  rcases l with _ | ⟨a,_ | ⟨b,z⟩⟩
  ·exact fne k
  ·exact fne k
  ·have k:=Bool.and_eq_true_iff.mp k;have k1:=Bool.and_eq_true_iff.mp k.1;obtain ⟨x,ex⟩:=Option.isSome_iff_exists.mp k1.1;have k2:(match jO b with | some ns=>ns.all isI | none=>false)=true:=k.2;rw [zZ ex] at d;cases eb:jO b with
   | none=>rw [eb] at k2;exact fne k2
   | some ns =>
    rw [eb] at k2;obtain ⟨is,ei⟩:=all_int k2;rw [xG eb,ei,List.isEmpty_iff.mp k1.2] at d;rw [zZ ex,xG eb,ei,List.isEmpty_iff.mp k1.2];obtain ⟨ra,ia,na,er,_,ga,dl⟩:=d;obtain ⟨v1,l1,e1,⟨t,et⟩,v2,l2,e2,⟨r,i1,n1,er1,_,g1,d1⟩,e3⟩:=dl;rw [er];have ea:ia=#[.bytes ⟨x⟩ t,.ref r]:=Array.toList_inj.mp (by rw [e1,e2,et,er1,show l2=[] from e3]);rw [ea] at ga;exact .t x is ra na t r i1 n1 ga g1 (den_int d1)
 | _=>exact fne k
theorem tup_inj{a b:Array Value}{n k:Nat}(e:some (xX a n)=some (xX b k)):a=b:=by
 have:=Option.some.inj e
 injection this with _ _ h3 _
 injection h3
theorem KAt.inj{h:Heap}{a b:V}{v:Value}(x:KAt h a v)(y:KAt h b v):a=b:=by
 cases x with
 | s x t=>cases y;rfl
 | b x t=>cases y;rfl
 | t x is ra n t r its m ga g d =>
  cases y with
  | t y js _ n' t' r' its' m' ga' g' d' =>
   have e:=congrArg Array.toList (tup_inj (ga.symm.trans ga'))
   injection e with e1 e2
   injection e1 with e1 _
   injection e2 with e2 _
   injection e2 with e2
   rw [e2] at g;rw [tup_inj (g.symm.trans g'),d'] at d
   injection e1 with e1
   rw [e1,int_inj d]
theorem eqV_key{x y:List UInt8}{is js:List Int}:eqV (.tup [.bytes x,.tup (is.map .int)]) (.tup [.bytes y,.tup (js.map .int)])=some (decide (x=y)&&decide (is=js)):=by
 show (match decide (x=y) with | true=>(eqL (is.map V.int) (js.map V.int)).bind _ | false=>some false)=_
 refine rwp eqL_int ?_;cases decide (x=y) <;> cases decide (is=js) <;> rfl
theorem KAt.self{h:Heap}{a:V}{v:Value}(x:KAt h a v):eqV a a=some true:=by
 cases x with
 | s x t=>exact congrArg some (decide_eq_true rfl)
 | b x t=>exact congrArg some (decide_eq_true rfl)
 | t x is=>refine rwp eqV_key ?_;refine rwp (decide_eq_true rfl) ?_;refine rwp (decide_eq_true rfl) ?_;rfl
theorem key_same{h:Heap}{a b:V}{v:Value}{c:Bool}(x:KAt h a v)(y:KAt h b v)(e:eqV a b=some c):c=true:=by
 rw [x.inj y,y.self] at e;exact (Option.some.inj e).symm
theorem key_true{h:Heap}{a b:V}{va vb:Value}(x:KAt h a va)(y:KAt h b vb)(e:eqV a b=some true):a=b:=by
 cases x with
 | s x t=>cases y with
  | s y u=>rw [of_decide_eq_true (Option.some.inj e)]
  | _=>exact zK e
 | b x t=>cases y with
  | b y u=>rw [of_decide_eq_true (Option.some.inj e)]
  | _=>exact zK e
 | t x is=>cases y with
  | t y js =>
   have e:=Bool.and_eq_true_iff.mp (Option.some.inj (eqV_key.symm.trans e));rw [of_decide_eq_true e.1,of_decide_eq_true e.2]
  | _=>exact zK e
theorem qV{ks:List V}{x:V}:∀ {r:Option Nat},yL ks x=some r->keyV x=true/\(∀ j k,ks[j]?=some k->keyV k=true/\eqV k x=some (decide (r=some j)))/\∀ j,r=some j->j < ks.length:=by
 induction ks with
 | nil =>
  intro r h;have h:(match keyV x with | true=>some none | false=>none)=some r:=h;cases hx:keyV x with
  | true=>rw [hx] at h;exact ⟨rfl,fun j k e=>zK (List.getElem?_nil.symm.trans e),fun j e=>zK ((Option.some.inj h).trans e)⟩
  | false=>rw [hx] at h;exact zK h
 | cons k ks ih =>
  intro r h;have h:(match keyV k with | true=>(eqV k x).bind fun b=>(yL ks x).bind (fK b) | false=>none)=some r:=h;cases hk:keyV k with
  | false=>rw [hk] at h;exact zK h
  | true =>
   rw [hk] at h;refine xQ h fun b he h=>xQ h fun q hf h=>?_;apply gk;intro J;obtain ⟨h1,h2,h3⟩:=ih hf;apply J;clear J;induction b using Bool.casesOn with
   | true =>
    induction q using Option.casesOn with
    | some q=>exact zK h
    | none =>
     refine rwp (Option.some.inj h).symm ?_;refine ⟨h1,fun j k' e=>?_,fun j e=>Option.some.inj e ▸ Nat.succ_pos _⟩;induction j using Nat.casesAuxOn with
     | zero=>refine rwp (Option.some.inj e).symm ?_;exact ⟨hk,he⟩
     | succ j=>have ⟨h3,h4⟩:=h2 j k' e;exact ⟨h3,h4.trans (congrArg some (decide_eq_decide.mpr ⟨fun q=>zK q,fun q=>absurd (Option.some.inj q) (Nat.succ_ne_zero j).symm⟩))⟩
   | false =>
    refine rwp (Option.some.inj h).symm ?_;refine ⟨h1,fun j k' e=>?_,fun j e=>?_⟩
    ·induction j using Nat.casesAuxOn with
     | zero=>refine rwp (Option.some.inj e).symm ?_;exact ⟨hk,he.trans (congrArg some (decide_eq_false (by induction q using Option.casesOn <;> simp)).symm)⟩
     | succ j=>have ⟨h3,h4⟩:=h2 j k' e;exact ⟨h3,h4.trans (congrArg some (decide_eq_decide.mpr (by induction q using Option.casesOn <;> simp)))⟩
    ·apply gk;intro J;obtain ⟨i,e1,e2⟩:=Option.map_eq_some_iff.mp e;apply J;clear J;exact e2 ▸ Nat.succ_lt_succ (h3 i e1)
theorem all_eq{is js:List Int}:((List.range (min is.length js.length)).all (fun j=>decide (is[j]?=js[j]?))&&is.length==js.length)=decide (is=js):=by
 rw [Bool.eq_iff_iff,Bool.and_eq_true,beq_iff_eq,List.all_eq_true,decide_eq_true_eq];refine ⟨fun ⟨h,e⟩=>List.ext_getElem? fun j=>?_,fun e=>by rw [e];exact ⟨fun _ _=>decide_eq_true rfl,rfl⟩⟩;by_cases hj:j < is.length
 ·exact of_decide_eq_true (h j (List.mem_range.mpr (Nat.lt_min.mpr ⟨hj,e ▸ hj⟩)))
 ·rw [List.getElem?_eq_none (Nat.le_of_not_lt hj),List.getElem?_eq_none (e ▸ Nat.le_of_not_lt hj)]
theorem tup_eqAt{ra rb:Addr}{ia ib:Array Value}{na nb:Nat}{e:Nat->Bool}{c:Bool}(hu:A.units < cLine)(ga:s.heap.get? ra=some (xX ia na))(gb:s.heap.get? rb=some (xX ib nb))
  (he:∀ j (h1:j < ia.size) (h2:j < ib.size),SeqAt.EqAt A.in1 s ia[j] ib[j] (e j)) (hc:((List.range (min ia.size ib.size)).all e&&ia.size==ib.size)=c) (hs:ra=rb->c=true):SeqAt.EqAt A s (.ref ra) (.ref rb) c:=by
 by_cases hr:ra=rb
 ·refine rwp (hs hr) ?_;refine rwp hr ?_;exact SeqAt.EqAt.same _
 ·exact SeqAt.EqAt.of_refs hr (hc ▸ SeqAt.RcAt.tuples ⟨_,ga,rfl,na,rfl⟩ ⟨_,gb,rfl,nb,rfl⟩ hu he)
theorem key_eqAt{a b:V}{va vb:Value}{c:Bool}(hu:A.units+3 < cLine)(x:KAt s.heap a va)(y:KAt s.heap b vb)(h:eqV a b=some c):SeqAt.EqAt A s va vb c:=by
 cases x with
 | s x t=>cases y with
  | s y u=>refine rwp (Option.some.inj h).symm ?_;rw [<- Bool.beq_eq_decide_eq];exact SeqAt.EqAt.str_str x t y u
  | _=>exact zK h
 | b x t=>cases y with
  | b y u=>refine rwp (Option.some.inj h).symm ?_;exact fun prog w E Q hq=>eqBool_bytes (b:=⟨x⟩) (c:=⟨y⟩) hq
  | _=>exact zK h
 | t x is ra n t r its m ga g d=>cases y with
  | t y js rb n' t' r' its' m' ga' g' d' =>
   have hc:=eqV_key.symm.trans h;have hin:SeqAt.EqAt A.in1 s (.ref r) (.ref r') (decide (is=js)):=by
    refine tup_eqAt (e:=fun j=>decide (is[j]?=js[j]?)) (Nat.lt_of_le_of_lt (Nat.le_add_right (A.units+1) 2) hu) g g' (fun j h1 h2=>?_) ?_ fun e=>?_
    ·apply gk;intro J;obtain ⟨i,t,h3,e3⟩:=int_at d (List.getElem?_eq_getElem (l:=its.toList) (i:=j) h1);obtain ⟨k,u,h4,e4⟩:=int_at d' (List.getElem?_eq_getElem (l:=its'.toList) (i:=j) h2);apply J;clear J;have e3:its[j]=_:=e3;have e4:its'[j]=_:=e4;refine rwp e3 ?_;refine rwp e4 ?_;refine rwp h3 ?_;refine rwp h4 ?_;refine rwp (show decide (some i=some k)=(i==k) by rw [Bool.eq_iff_iff];simp) ?_;exact SeqAt.EqAt.int_int i t k u
    ·refine rwp Array.length_toList.symm ?_;refine rwp Array.length_toList.symm ?_;refine rwp (int_len d) ?_;refine rwp (int_len d') ?_;exact all_eq
    ·rw [e] at g;rw [tup_inj (g.symm.trans g'),d'] at d;exact decide_eq_true (int_inj d).symm
   refine tup_eqAt (e:=fun j=>if j=0 then decide (x=y) else decide (is=js)) (Nat.lt_of_le_of_lt (Nat.le_add_right _ 3) hu) ga ga' (fun j h1 h2=>?_) ?_ fun e=>?_
   ·have h1:j < 2:=h1
    match j,h1 with
    | 0,_=>exact fun prog w E Q hq=>eqBool_bytes (b:=⟨x⟩) (c:=⟨y⟩) hq
    | 1,_=>exact hin
   ·refine rwp (Option.some.inj hc).symm ?_;show (decide (x=y)&&(decide (is=js)&&true)&&true)=_
    rw [Bool.and_true,Bool.and_true]
   ·have x:=KAt.t x is ra n t r its m ga g d;rw [e] at x;exact key_same x (KAt.t y js rb n' t' r' its' m' ga' g' d') h
  | _=>exact zK h
end
end Mine
end
section
set_option tactic.hygienic false
namespace Mine
section
variable{prog:Program}{w:World}{K:Frag}{mb:Str->Option Value}{A:Around}{own ρ:List Addr}{L:Addr}{m:Loc}{σ:List O}{s:Shared}{r:Nat}{T:Tabs}
noncomputable def HashAt(prog:Program)(w:World)(A:Around)(s:Shared)(v:Value)(i:Int):Prop:=∀ (tk:Tok) (E:Value->Shared->Prop) (Q:Int->Shared->Prop),(∀ tk',Q i { s with toks:=tk' })->wpAny (model prog w) A (pyHash v) Q E { s with toks:=tk }
theorem hash_int{i:Int}{t:Tok}:HashAt prog w A s (.int i t) (hashInt i):=fun _ _ _ h=>wpAny_pyHash_int (h _)
theorem hash_bytes{b:List UInt8}{t:Tok}:HashAt prog w A s (.bytes ⟨b⟩ t) (hashW w.params (.bytes b)):=fun _ _ _ h=>(bytesKind prog w).pyHash (k:=b) (by simp [bytesKind,PySem.W.isBytes]) (h _)
theorem hash_str{x:Str}{t:Tok}:HashAt prog w A s (.str x t) (hashStr w x):=fun _ _ _ h=>wpAny_pyHash_str (h _)
inductive HashI(s:Shared)(hs:List Int)(its rest:List Value)(b:Array Int)(s':Shared):Prop
 | mk (done left:List Int) (dn:List Value) (tk':Tok) (e1:hs=done++left) (e2:its=dn++rest) (e3:dn.length=done.length) (hb:b.toList=done) (es:s'={ s with toks:=tk' })
theorem hash_tup{a:Addr}{its:Array Value}{n:Nat}{hs:List Int}(hu:A.units < cLine)(g:s.heap.get? a=some (xX its n))(hl:its.toList.length=hs.length)(hi:∀ (j:Nat) v i,its.toList[j]?=some v->hs[j]?=some i->HashAt prog w A.in1 s v i) :
  HashAt prog w A s (.ref a) (reduceHash (Builtin.Tuple.tupleHashOf hs)):=fun tk E Q h=>by
 have hT:({ s with toks:=tk }:Shared).TypeIs (.ref a) "tuple" := ⟨_,g,rfl⟩
 first | unfold pyHashByItsType | skip
 first | refine wpAny_bind (wpAny_cRoomFor_or (.inr hu) ?_) | skip
 refine wpAny_bind (wpAny_specialOf hT F.slot_tuple_hash.lookup ?_);refine rwp (if_neg (by rw [beq_builtin_none];exact Bool.false_ne_true)) ?_;refine wpAny_bind (wpAny_specialOf hT F.slot_tuple_hash.lookup ?_);refine wpAny_bind (wpAny_callSpecialIfBoundUnlessNone?_slot hT F.slot_tuple_hash (wpAny_call_entry F.slot_tuple_hash hT F.entry_tuple_hash ?_ (F.args_tuple_hash_1 _)));show wpAny _ _ (Builtin.Tuple.tupleItemsOf (.ref a) >>= _) _ _ _
 refine wpAny_bind (wpAny_tupleItemsOf g rfl ?_);refine wpAny_bind ?_;refine rwp Array.forIn_toList.symm ?_;refine wpAny_forIn_list _
  (fun rest (b:Array Int) s'=>HashI s hs its.toList rest b s')
  _ ?_ ?_ _ _ ⟨[],hs,[],tk,rfl,rfl,rfl,rfl,rfl⟩
 ·rintro x rest b s' ⟨done,left,dn,tk',e1,e2,e3,hb,rfl⟩
  induction left using List.casesOn with
  | nil=>rw [e1,e2] at hl;simp at hl;simp_all
  | cons i left =>
   refine wpAny_bind (hi dn.length x i (by refine rwp e2 ?_;simp) (by refine rwp e1 ?_;refine rwp e3 ?_;simp) tk' _ _ fun tk2=>?_);first
    | exact wpAny_pure ⟨done++[i],left,dn++[x],tk2,by refine rwp e1 ?_;simp,by refine rwp e2 ?_;simp,by simp [e3],by simp [hb],rfl⟩
    | exact wpAny_bind (wpAny_pure (wpAny_pure ⟨done++[i],left,dn++[x],tk2,by refine rwp e1 ?_;simp,by refine rwp e2 ?_;simp,by simp [e3],by simp [hb],rfl⟩))
 ·rintro b s' ⟨done,left,dn,tk',e1,e2,e3,hb,rfl⟩
  have hleft:left=[]:=by
   rw [e1,e2] at hl;simp at hl;exact List.eq_nil_of_length_eq_zero (by simp_all)
  subst hleft;rw [List.append_nil] at e1;subst e1;show wpAny _ _ (retInt (Builtin.Tuple.tupleHashOf b.toList)) _ _ _
  refine rwp hb ?_;refine wpAny_ret_mkInt ?_;show wpAny _ _ (if (decide (-(2:Int) ^ 63<=Builtin.Tuple.tupleHashOf hs)&&decide (Builtin.Tuple.tupleHashOf hs < 2 ^ 63))=true then _ else _) Q E _
  unfold reduceHash at h;by_cases hr:(decide (-(2:Int) ^ 63<=Builtin.Tuple.tupleHashOf hs)&&decide (Builtin.Tuple.tupleHashOf hs < 2 ^ 63))=true
  ·refine rwp (if_pos hr) ?_;rw [if_pos hr] at h;exact wpAny_pure (h _)
  ·refine rwp (if_neg hr) ?_;rw [if_neg hr] at h;exact wpAny_bind (wpAny_rule (wpAny_pure (h _)))
theorem hashL_length:∀ (ks:List V),(xL w ks).length=ks.length:=by
 intro zv;induction zv with
 | nil =>
  exact rfl
 | cons _ r ih =>
  show (xL w r).length+1=r.length+1;rw [ih]
theorem hashL_get:∀ (ks:List V) (j:Nat),(xL w ks)[j]?=(ks[j]?).map (xK w)
 | [],j=>by simp [xL]
 | k::r,0=>rfl
 | k::r,j+1=>by show (xL w r)[j]?=_;rw [hashL_get];simp
inductive AtD(w:World)(own ρ:List Addr)(h:Heap)(xs:List V)(i:Nat)(y:Value):Prop
 | mk (x:V) (e:xs[i]?=some x) (d:Den w own ρ h x y)
theorem DenL.at{h:Heap}{xs:List V}:∀ {ys:List Value} {i:Nat} {y:Value},DenL w own ρ h xs ys->ys[i]?=some y->AtD w own ρ h xs i y:=by
 induction xs with
 | nil=>intro ys i y d e;rw [show ys=[] from d] at e;exact zK (List.getElem?_nil.symm.trans e)
 | cons x xs ih =>
  intro ys i z ⟨y,ys',e1,a,d⟩ e;rw [e1] at e;induction i using Nat.casesAuxOn with
  | zero=>exact ⟨x,rfl,Option.some.inj e ▸ a⟩
  | succ i=>exact let ⟨x,h1,h2⟩:=ih (i:=i) d e;⟨x,h1,h2⟩
theorem key_hash{a:V}{va:Value}(hu:A.units+3 < cLine)(x:KAt s.heap a va):HashAt prog w A s va (xK w a):=by
 cases x with
 | s x t=>exact hash_str
 | b x t=>exact hash_bytes
 | t x is ra n t r its m ga g d =>
  refine hash_tup (hs:=xL w [.bytes x,.tup (is.map .int)]) (Nat.lt_of_le_of_lt (Nat.le_add_right _ 3) hu) ga rfl fun j v i e1 e2=>?_
  match j,e1,e2 with
  | 0,e1,e2=>refine rwp (Option.some.inj e1).symm ?_;refine rwp (Option.some.inj e2).symm ?_;exact hash_bytes
  | 1,e1,e2 =>
   refine rwp (Option.some.inj e1).symm ?_;refine rwp (Option.some.inj e2).symm ?_;refine hash_tup (hs:=xL w (is.map .int)) (Nat.lt_of_le_of_lt (Nat.le_add_right (A.units+1) 2) hu) g (by rw [hashL_length,List.length_map];exact int_len d) fun j v i e1 e2=>?_;obtain ⟨i',t',h,e⟩:=int_at d e1;rw [hashL_get,List.getElem?_map,h] at e2;refine rwp e ?_;refine rwp (Option.some.inj e2).symm ?_;exact hash_int
  | j+2,e1,_=>exact zK ((List.getElem?_nil (i:=j)).symm.trans e1)
noncomputable def EntD(w:World)(own ρ:List Addr)(h:Heap)(es:List DictEntry)(ks vs:List V):Prop:=es.map DictEntry.hash=xL w ks/\DenL w own ρ h ks (es.map DictEntry.key)/\DenL w own ρ h vs (es.map DictEntry.val)
inductive EntAt(w:World)(own ρ:List Addr)(h:Heap)(ks vs:List V)(j:Nat)(e:DictEntry):Prop
 | mk (k u:V) (hk:ks[j]?=some k) (hv:vs[j]?=some u) (hh:e.hash=xK w k) (dk:Den w own ρ h k e.key) (dv:Den w own ρ h u e.val)
theorem EntD.get{h:Heap}{es:List DictEntry}{ks vs:List V}(D:EntD w own ρ h es ks vs){j:Nat}{e:DictEntry}(he:es[j]?=some e):EntAt w own ρ h ks vs j e:=by
 apply gk;intro J;obtain ⟨k,a1,a2⟩:=D.2.1.at (i:=j) (y:=e.key) (by refine rwp List.getElem?_map ?_;refine rwp he ?_;rfl);obtain ⟨u,b1,b2⟩:=D.2.2.at (i:=j) (y:=e.val) (by refine rwp List.getElem?_map ?_;refine rwp he ?_;rfl);apply J;clear J;refine ⟨k,u,a1,b1,?_,a2,b2⟩;have:=congrArg (fun l=>l[j]?) D.1;simp only [List.getElem?_map,he,hashL_get,a1,Option.map_some] at this;exact Option.some.inj this
theorem EntD.len{h:Heap}{es:List DictEntry}{ks vs:List V}(D:EntD w own ρ h es ks vs):es.length=ks.length/\vs.length=ks.length:=by
 have h2:=D.2.1.length;have h3:=D.2.2.length;rw [List.length_map] at h2 h3;exact ⟨h2,h3.symm.trans h2⟩
theorem findK_lt{ks:List V}{x:V}{j:Nat}(h:yL ks x=some (some j)):j < ks.length:=(qV h).2.2 j rfl
theorem quiet_tup{n:Nat}{a:Addr}{its:Array Value}{k:Nat}{Q:Bool->Shared->Prop}{E:Value->Shared->Prop}(g:s.heap.get? a=some (xX its k))(hi:∀ v∈its.toList,∀ (E:Value->Shared->Prop) (Q:Bool->Shared->Prop),Q true s->wpAny (model prog w) A (eqIsQuiet n v) Q E s)
  (h:Q true s):wpAny (model prog w) A (eqIsQuiet (n+1) (.ref a)) Q E s:=by
 have hT:s.TypeIs (.ref a) "tuple" := ⟨_,g,rfl⟩
 unfold eqIsQuiet;refine wpAny_bind (wpAny_specialOf hT F.slot_tuple_eq.lookup ?_);show wpAny _ _ (isInstance (.ref a) (.type "tuple") >>= _) _ _ s
 refine wpAny_bind (wpAny_isInstance hT isSubtype_tuple_tuple ?_);simp only [Bool.not_true,Bool.false_eq_true,if_false];refine wpAny_bind (wpAny_seqItems g rfl ?_);refine wpAny_bind ?_;refine rwp Array.forIn_toList.symm ?_;refine wpAny_forIn_list _ (fun rest r s'=>s'=s/\r=(none,())/\∀ v∈rest,v∈its.toList) _ ?_ ?_ _ _ ⟨rfl,rfl,fun _ q=>q⟩
 ·rintro x rest r s' ⟨rfl,rfl,hr⟩
  refine wpAny_bind (hi x (hr x (.head _)) _ _ ?_);simp only [Bool.not_true,Bool.false_eq_true,if_false];exact wpAny_pure ⟨rfl,rfl,fun v hv=>hr v (.tail _ hv)⟩
 ·rintro r s' ⟨rfl,rfl,_⟩
  exact wpAny_pure h
theorem int_mem{is:List Int}{l:List Value}{v:Value}(d:l.map valI=is.map some)(hv:v∈l):∃ i t,v=.int i t:=by
 have h:=List.mem_map_of_mem (f:=valI) hv;rw [d] at h;obtain ⟨i,_,e⟩:=List.mem_map.mp h;exact ⟨i,valI_of e.symm⟩
theorem key_quiet{k:V}{b:Addr}{Q:Bool->Shared->Prop}{E:Value->Shared->Prop}(x:KAt s.heap k (.ref b))(hq:Q true s):wpAny (model prog w) A (eqIsQuiet 8 (.ref b)) Q E s:=by
 cases x with
 | t x is ra n t r its m ga g d =>
  refine quiet_tup ga (fun v hv E Q hq=>?_) hq;rcases List.mem_cons.mp hv with rfl | hv
  ·exact wpAny_of_eq (eqIsQuiet_byValue _ rfl) hq
  ·refine rwp (List.mem_singleton.mp hv) ?_;refine quiet_tup g (fun v hv E Q hq=>?_) hq;obtain ⟨i,t,e⟩:=int_mem d hv;refine rwp e ?_;exact wpAny_of_eq (eqIsQuiet_byValue _ rfl) hq
inductive RefK(h:Heap)(v:Value):Prop
 | mk (k:V) (b:Addr) (e:v=.ref b) (x:KAt h k (.ref b))
theorem tells_quiet{k:V}{ra:Addr}{stored:List Value}{Q:Bool->Shared->Prop}{E:Value->Shared->Prop}(hd:KAt s.heap k (.ref ra))(hst:∀ v∈stored,RefK s.heap v)(h:Q false s) :
  wpAny (model prog w) A (tableMayTell (.ref ra) stored) Q E s:=by
 unfold tableMayTell;split
 ·exact wpAny_pure h
 ·refine wpAny_bind (key_quiet hd ?_);simp only [Bool.not_true,Bool.false_eq_true,if_false];refine wpAny_bind ?_;refine wpAny_forIn_list _ (fun rest r s'=>s'=s/\r=(none,())/\∀ v∈rest,RefK s.heap v) _ ?_ ?_ _ _ ⟨rfl,rfl,hst⟩
  ·rintro x rest r s' ⟨rfl,rfl,hr⟩
   obtain ⟨k',b,rfl,hb⟩:=hr x List.mem_cons_self;refine wpAny_bind (key_quiet hb ?_);simp only [Bool.not_true,Bool.false_eq_true,if_false];exact wpAny_pure ⟨rfl,rfl,fun v hv=>hr v (List.mem_cons_of_mem _ hv)⟩
  ·rintro r s' ⟨rfl,rfl,_⟩
   exact wpAny_pure h
inductive EntK(w:World)(h:Heap)(x:V)(rr:Option Nat)(j:Nat)(e:DictEntry):Prop
 | mk (k:V) (a:KAt h k e.key) (hh:e.hash=xK w k) (he:eqV k x=some (decide (rr=some j)))
noncomputable abbrev plc(es:List DictEntry)(hx:Int):List Nat:=placesWithHash es.toArray.size (fun i=>es.toArray[i]?.map (·.hash)) hx
theorem plc_in{es:List DictEntry}{hx:Int}{i:Nat}(h:i∈plc es hx):∃ e,es[i]?=some e/\e.hash=hx:=by
 have h2:=(List.mem_filter.mp h).2;have h2:(es.toArray[i]?.map (·.hash)==some hx)=true:=h2;rw [List.getElem?_toArray] at h2;cases he:es[i]? with
 | none=>rw [he] at h2;exact fne h2
 | some e=>rw [he] at h2;exact ⟨e,rfl,Option.some.inj (eq_of_beq h2)⟩
theorem find_at{es:List DictEntry}{rr:Option Nat}(hlt:∀ j,rr=some j->j < es.length)(p:DictEntry->Bool)(hp:∀ j e,es[j]?=some e->p e=decide (rr=some j)):es.toArray.findIdx? p=rr:=by
 have e0:es.toArray.findIdx? p=es.findIdx? p:=by simp
 rw [e0];cases hr:rr with
 | none =>
  rw [List.findIdx?_eq_none_iff];intro e he;obtain ⟨j,hj,hje⟩:=List.getElem_of_mem he;rw [hp j e (by rw [List.getElem?_eq_getElem hj,hje]),hr];exact decide_eq_false fun q=>zK q
 | some j =>
  have hj':=hlt j hr;rw [List.findIdx?_eq_some_iff_getElem];refine ⟨hj',by rw [hp j _ (List.getElem?_eq_getElem hj'),hr];exact decide_eq_true rfl,fun i hi=>?_⟩;rw [hp i _ (List.getElem?_eq_getElem (Nat.lt_trans hi hj')),hr,decide_eq_false fun q=>Nat.ne_of_gt hi (Option.some.inj q)];exact Bool.false_ne_true
theorem if_two{α:Type}{c:Prop}[Decidable c]{x y:Sem α}{Q:α->Shared->Prop}{E:Value->Shared->Prop}{R:Prop}(hx:R->wpAny (model prog w) A x Q E s)(hy:R->wpAny (model prog w) A y Q E s)(h:R):wpAny (model prog w) A (if c then x else y) Q E s:=by
 by_cases e:c
 ·refine rwp (if_pos e) ?_;exact hx h
 ·refine rwp (if_neg e) ?_;exact hy h
inductive Hit(rr:Option Nat)(ps rest:List Nat):Option (Option Nat)×Option Nat->Prop
 | a (hr:∀ i∈rest,i∈ps) (nd:rest.Nodup) (hj:∀ j,rr=some j->j∈rest):Hit rr ps rest (none,none)
 | b (j:Nat) (hr:∀ i∈rest,i∈ps) (nd:rest.Nodup) (e:rr=some j) (hj:j∉rest):Hit rr ps rest (none,some j)
theorem dictFind_ref{d ra:Addr}{es:List DictEntry}{n:Nat}{x:V}{rr:Option Nat}{Q:Option Nat->Shared->Prop}{E:Value->Shared->Prop}(hu:A.units+3 < cLine)(ho:s.heap.get? d=some (dictOf es n))(hlt:∀ j,rr=some j->j < es.length)
  (X:KAt s.heap x (.ref ra)) (hE:∀ j e,es[j]?=some e->EntK w s.heap x rr j e) (h:Q rr s):wpAny (model prog w) A (dictFind d (.ref ra) (xK w x)) Q E s:=by
 have hany:¬ (es.toArray.any fun e=>e.key==Value.ref ra&&e.hash != xK w x)=true:=by
  rw [<- Array.any_toList,List.any_eq_true];rintro ⟨e,hin,hc⟩
  apply gk;intro J;obtain ⟨j,hj,hje⟩:=List.getElem_of_mem hin;obtain ⟨k,h1,h2,_⟩:=hE j e (by rw [List.getElem?_eq_getElem hj,hje]);apply J;clear J;have hc:=Bool.and_eq_true_iff.mp hc;rw [eq_of_beq hc.1] at h1;rw [h1.inj X] at h2;exact absurd h2 (bne_iff_ne.mp hc.2)
 have hst:∀ v∈(plc es (xK w x)).filterMap (fun i=>es.toArray[i]?.map (·.key)),RefK s.heap v:=fun v hv=>by
  apply gk;intro J;obtain ⟨i,hi0,hi⟩:=List.mem_filterMap.mp hv;obtain ⟨e,he,_⟩:=plc_in hi0;rw [List.getElem?_toArray,he] at hi;obtain ⟨k,h1,_,h3⟩:=hE i e he;apply J;clear J;rw [show e.key=v from Option.some.inj hi] at h1;have k1:=h1;cases X with
  | t=>cases h1 with
   | t=>exact ⟨_,_,rfl,k1⟩
   | _=>exact zK h3
 have hin:∀ j,rr=some j->j∈plc es (xK w x):=fun j hj=>by
  have he:=List.getElem?_eq_getElem (hlt j hj);apply gk;intro J;obtain ⟨k,h1,h2,h3⟩:=hE j _ he;apply J;clear J;rw [hj,decide_eq_true rfl] at h3;refine List.mem_filter.mpr ⟨List.mem_range.mpr (hlt j hj),?_⟩;show (es.toArray[j]?.map (·.hash)==some _)=true
  rw [List.getElem?_toArray,he,Option.map_some,h2,key_true h1 X h3];exact beq_self_eq_true _
 unfold dictFind
 try with_reducible refine wpAny_holding ?_
 refine wpAny_bind (wpAny_dictEntries ho rfl ?_);dsimp only;rw [if_neg (show ¬ ((Value.ref ra::(plc es (xK w x)).filterMap (fun i=>es.toArray[i]?.map (·.key))).all carriedByValue)=true from fun q=>fne q)];rw [if_neg hany];refine if_two (fun h=>wpAny_bind (wpAny_pure h)) (fun h=>wpAny_bind (tells_quiet X hst h)) ?_;rw [if_neg (by rw [Bool.false_and];exact Bool.false_ne_true)];refine wpAny_bind ?_;refine wpAny_forIn_list _ (fun rest b s'=>s'=s/\Hit rr (plc es (xK w x)) rest b) _ ?_ ?_ _ _ ⟨rfl,.a (fun _ q=>q) (List.Pairwise.filter _ List.nodup_range) hin⟩
 ·rintro i rest b s' ⟨rfl,H⟩
  have hi:i∈plc es (xK w x):=by cases H with
   | a hr=>exact hr i (.head _)
   | b _ hr=>exact hr i (.head _)
  apply gk;intro J;obtain ⟨e,hex,hhash⟩:=plc_in hi;obtain ⟨k,a,_,he⟩:=hE i e hex;apply J;clear J;have hc:=key_eqAt (A:=A) hu a X he;rw [List.getElem?_toArray,hex];dsimp only;rw [if_pos (by rw [hhash];exact beq_self_eq_true _)];refine wpAny_bind (wpAny_dictEpoch ho rfl (wpAny_bind (hc prog w _ _ (wpAny_bind (wpAny_dictEpoch ho rfl ?_)))));show wpAny _ _ (if (n != n)=true then _ else _) _ E _
  rw [if_neg (by rw [bne_self_eq_false];exact Bool.false_ne_true)];by_cases hrx:rr=some i
  ·rw [decide_eq_true hrx];cases H with
   | a hr nd hj =>
    have nd:=List.nodup_cons.mp nd;first | rw [if_pos rfl] | skip
    simp only [Option.isSome_none,Bool.false_eq_true,if_false];first | refine wpAny_bind (wpAny_pure ?_) | skip
    refine wpAny_bind (wpAny_rule ?_);exact if_two (R:=True) (fun _=>wpAny_pure (wpAny_pure (hrx ▸ h))) (fun _=>wpAny_pure ⟨rfl,.b i (fun i q=>hr i (.tail _ q)) nd.2 hrx nd.1⟩) trivial
   | b j hr nd e hj=>exact absurd (Option.some.inj (e.symm.trans hrx) ▸ .head _) hj
  ·rw [decide_eq_false hrx];have H2:Hit rr (plc es (xK w x)) rest b:=by cases H with
    | a hr nd hj=>exact .a (fun i q=>hr i (.tail _ q)) (List.nodup_cons.mp nd).2 fun j e=>(List.mem_cons.mp (hj j e)).resolve_left fun q=>hrx (q ▸ e)
    | b j hr nd e hj=>exact .b j (fun i q=>hr i (.tail _ q)) (List.nodup_cons.mp nd).2 e fun q=>hj (.tail _ q)
   simp only [Bool.false_eq_true,if_false];refine wpAny_bind (wpAny_rule ?_);first | rw [if_neg (by simp)] | skip
   cases H2 with
   | a hr nd hj=>first
    | exact wpAny_pure ⟨rfl,.a hr nd hj⟩
    | exact wpAny_bind (wpAny_pure (wpAny_pure ⟨rfl,.a hr nd hj⟩))
   | b j hr nd e hj=>first
    | exact wpAny_pure ⟨rfl,.b j hr nd e hj⟩
    | exact wpAny_bind (wpAny_pure (wpAny_pure ⟨rfl,.b j hr nd e hj⟩))
 ·rintro b s' ⟨rfl,H⟩
  cases H with
  | a _ _ hj =>
   refine wpAny_pure ((?_:rr=none) ▸ h);cases hq:rr with
   | none=>rfl
   | some j=>exact absurd (hj j hq) List.not_mem_nil
  | b j _ _ e=>exact wpAny_pure (e ▸ h)
theorem dictFind_ok{d:Addr}{es:List DictEntry}{n:Nat}{ks vs:List V}{x:V}{vx:Value}{rr:Option Nat}{Q:Option Nat->Shared->Prop}{E:Value->Shared->Prop}(hu:A.units+3 < cLine)(ho:s.heap.get? d=some (dictOf es n))(D:EntD w own ρ s.heap es ks vs)(hf:yL ks x=some rr)
  (dx:Den w own ρ s.heap x vx) (h:Q rr s):wpAny (model prog w) A (dictFind d vx (xK w x)) Q E s:=by
 apply gk;intro J;obtain ⟨kx,hsp,hl⟩:=qV hf;apply J;clear J;have hlt:∀ j,rr=some j->j < es.length:=fun j e=>D.len.1 ▸ hl j e;have hE:∀ j e,es[j]?=some e->EntK w s.heap x rr j e:=fun j e he=>by
  apply gk;intro J;obtain ⟨k,u,h1,h2,h3,h4,h5⟩:=D.get he;apply J;clear J;exact ⟨k,key_at (hsp j k h1).1 h4,h3,(hsp j k h1).2⟩
 have X:=key_at kx dx;cases X with
 | s x0 t =>
  have hk:∀ j e,es[j]?=some e->∃ y u,e.key=.str y u/\e.hash=hashStr w y/\decide (y=x0)=decide (rr=some j):=fun j e he=>by
   apply gk;intro J;obtain ⟨k,h1,h2,h3⟩:=hE j e he;apply J;clear J;generalize e.key=q at h1;cases h1 with
   | s y u=>exact ⟨y,u,rfl,h2,Option.some.inj h3⟩
   | _=>exact zK h3
  refine wpAny_dictFind_of (knd:=PySem.strKind prog w) (k:=x0) (by simp [PySem.strKind,Value.isStrOf]) ho rfl (fun e he=>?_) (find_at hlt _ (fun j e he=>?_) ▸ h)
  ·apply gk;intro J;obtain ⟨j,hj,hje⟩:=List.getElem_of_mem (by simpa using he:e∈es);obtain ⟨y,u,e1,e2,_⟩:=hk j e (by rw [List.getElem?_eq_getElem hj,hje]);apply J;clear J;exact ⟨y,by rw [e1];simp [PySem.strKind,Value.isStrOf],e2⟩
  ·apply gk;intro J;obtain ⟨y,u,e1,e2,e3⟩:=hk j e he;apply J;clear J;rw [<- e3,e1];exact Bool.beq_eq_decide_eq y x0
 | b x0 t =>
  have hk:∀ j e,es[j]?=some e->∃ y u,e.key=.bytes ⟨y⟩ u/\e.hash=hashW w.params (.bytes y)/\decide (y=x0)=decide (rr=some j):=fun j e he=>by
   apply gk;intro J;obtain ⟨k,h1,h2,h3⟩:=hE j e he;apply J;clear J;generalize e.key=q at h1;cases h1 with
   | b y u=>exact ⟨y,u,rfl,h2,Option.some.inj h3⟩
   | _=>exact zK h3
  refine wpAny_dictFind_of (knd:=bytesKind prog w) (k:=x0) (by simp [bytesKind,PySem.W.isBytes]) ho rfl (fun e he=>?_) (find_at hlt _ (fun j e he=>?_) ▸ h)
  ·apply gk;intro J;obtain ⟨j,hj,hje⟩:=List.getElem_of_mem (by simpa using he:e∈es);obtain ⟨y,u,e1,e2,_⟩:=hk j e (by rw [List.getElem?_eq_getElem hj,hje]);apply J;clear J;exact ⟨y,by rw [e1];simp [bytesKind,PySem.W.isBytes],e2⟩
  ·apply gk;intro J;obtain ⟨y,u,e1,e2,e3⟩:=hk j e he;apply J;clear J;rw [<- e3,e1];exact Bool.beq_eq_decide_eq y x0
 | t x0 is ra n t r its m ga g d=>exact dictFind_ref hu ho hlt (.t x0 is ra n t r its m ga g d) hE h
end
end Mine
end
section
set_option tactic.hygienic false
namespace Mine
section
variable{prog:Program}{w:World}{K:Frag}{mb:Str->Option Value}{A:Around}{own ρ:List Addr}{L:Addr}{m:Loc}{σ:List O}{s:Shared}{r:Nat}{T:Tabs}
theorem AOk.u4(x:AOk r A):A.units+4 < cLine:=by have:=x.units;have:cLine=9900:=rfl;lia
inductive DctAt(w:World)(own ρ:List Addr)(h:Heap)(ks vs:List V)(v:Value):Prop
 | mk (l:Addr) (es:List DictEntry) (n:Nat) (e:v=.ref l) (nm:(l==sysModules)=false) (g:h.get? l=some (dictOf es n)) (D:EntD w own ρ h es ks vs)
theorem dct_at{a:V}{va:Value}{ks vs:List V}(st:Stat K mb own s.heap)(S:Sat w own L ρ m σ s.heap)(d:Den w own ρ s.heap a va)(h:qC σ a=some (ks,vs)):DctAt w own ρ s.heap ks vs va:=by
 induction a using Mine.V.casesOn with
 | dct ks' vs' =>
  injection Option.some.inj h with h1 h2
  refine rwp h1.symm ?_;refine rwp h2.symm ?_;exact let ⟨l,es,n,e,nm,_,g,dl⟩:=d;⟨l,es,n,e,beq_eq_false_iff_ne.mpr nm,g,dl⟩
 | loc i =>
  refine xQ h fun o e k=>?_;rw [oDct_of k] at e;apply gk;intro J;obtain ⟨l,e1,hl⟩:=d;obtain ⟨o,g,es,n,e2,dl⟩:=S.objs i _ l e hl;apply J;clear J;exact ⟨l,es,n,e1,beq_eq_false_iff_ne.mpr fun q=>st.sm.1 (q ▸ S.mem hl),e2 ▸ g,dl⟩
 | _=>exact zK h
theorem dictGet_ok{d:Addr}{es:List DictEntry}{n:Nat}{ks vs:List V}{x:V}{vx:Value}{rr:Option Nat}{Q:Option Value->Shared->Prop}{E:Value->Shared->Prop}(hu:A.units+3 < cLine)(ho:s.heap.get? d=some (dictOf es n))(D:EntD w own ρ s.heap es ks vs)(hf:yL ks x=some rr)
  (dx:Den w own ρ s.heap x vx) (h:∀ tk res,(rr=none->res=none)->(∀ j,rr=some j->∃ u v,vs[j]?=some u/\res=some v/\Den w own ρ s.heap u v)->Q res { s with toks:=tk }):wpAny (model prog w) A (dictGet d vx) Q E s:=by
 unfold dictGet
 try with_reducible refine wpAny_holding ?_
 refine wpAny_bind (key_hash hu (key_at (qV hf).1 dx) s.toks _ _ fun tk=>?_);refine wpAny_bind (dictFind_ok (s:={ s with toks:=tk }) hu ho D hf dx ?_);induction rr using Option.casesOn with
 | none=>exact wpAny_pure (h tk none (fun _=>rfl) fun j q=>by cases q)
 | some j =>
  refine wpAny_bind (wpAny_dictEntries (s:={ s with toks:=tk }) ho rfl ?_);have h1:=findK_lt hf;have hl:=D.len;have hj:j < es.length:=by simp_all
  have he:es[j]?=some es[j]:=List.getElem?_eq_getElem hj;obtain ⟨k,u,a1,a2,a3,a4,a5⟩:=D.get he;have he':es.toArray[j]?=some es[j]:=by simp [hj]
  refine wpAny_pure (h tk _ (fun q=>by cases q) fun j' q=>?_);cases q;refine ⟨u,es[j].val,a2,?_,a5⟩;refine rwp he' ?_;rfl
theorem inDict_ok{d:Addr}{es:List DictEntry}{n:Nat}{ks vs:List V}{x:V}{vx:Value}{rr:Option Nat}{Q:Bool->Shared->Prop}{E:Value->Shared->Prop}(hu:A.units+4 < cLine)(hd:(d==sysModules)=false)(ho:s.heap.get? d=some (dictOf es n))(D:EntD w own ρ s.heap es ks vs)(hf:yL ks x=some rr)
  (dx:Den w own ρ s.heap x vx) (h:∀ tk,Q rr.isSome { s with toks:=tk }):wpAny (model prog w) A (contains (.ref d) vx) Q E s:=by
 have hT:s.TypeIs (.ref d) "dict" := ⟨_,ho,rfl⟩
 unfold contains
 try with_reducible refine wpAny_holding ?_
 refine wpAny_bind (wpAny_specialOf hT slot_dict_contains.lookup ?_);show wpAny _ _ (if (some (Value.builtin "dict.__contains__")==some Value.none)=true then _ else _) _ E s
 refine rwp (if_neg (by rw [beq_builtin_none];exact Bool.false_ne_true)) ?_;refine wpAny_bind (wpAny_callSpecialUnlessNone?_slot (name:=Str.ofString "__contains__") hT slot_dict_contains
  (wpAny_call_entry slot_dict_contains hT entry_dict_contains ?_ (args_dict_contains _ _)))
 show wpAny _ _ (dictGet d vx >>= _) _ _ s
 refine wpAny_bind (dictGet_ok (show A.units+1+3 < cLine by simp_all) ho D hf dx fun tk res h1 h2=>?_);cases hr:rr with
 | some j =>
  apply gk;intro J;obtain ⟨u,v,_,rfl,_⟩:=h2 j hr;apply J;clear J;have:=h tk;rw [hr] at this;exact wpAny_pure ⟨_,rfl,wpAny_truthy_bool this⟩
 | none =>
  refine rwp (h1 hr) ?_;have:=h tk;rw [hr] at this;exact wpAny_bind (wpAny_pendingKey_other hd (wpAny_pure ⟨_,rfl,wpAny_truthy_bool this⟩))
theorem getDict_ok{d:Addr}{es:List DictEntry}{n:Nat}{ks vs:List V}{x:V}{vx:Value}{j:Nat}{Q:Value->Shared->Prop}{E:Value->Shared->Prop}(hu:A.units+4 < cLine)(ho:s.heap.get? d=some (dictOf es n))(D:EntD w own ρ s.heap es ks vs)(hf:yL ks x=some (some j))
  (dx:Den w own ρ s.heap x vx) (h:∀ tk u v,vs[j]?=some u->Den w own ρ s.heap u v->Q v { s with toks:=tk }):wpAny (model prog w) A (getItem (.ref d) vx) Q E s:=by
 have hT:s.TypeIs (.ref d) "dict" := ⟨_,ho,rfl⟩
 unfold getItem
 try with_reducible refine wpAny_holding ?_
 refine wpAny_bind (wpAny_sequenceKey hT (by decide) ?_);refine wpAny_bind (wpAny_callSpecial?_slot (name:=Str.ofString "__getitem__") hT slot_dict_getitem
  (wpAny_call_entry slot_dict_getitem hT entry_dict_getitem ?_ (args_dict_getitem _ _)))
 show wpAny _ _ (dictGet d vx >>= _) _ _ s
 refine wpAny_bind (dictGet_ok (show A.units+1+3 < cLine by simp_all) ho D hf dx fun tk res h1 h2=>?_);apply gk;intro J;obtain ⟨u,v,h3,rfl,h4⟩:=h2 j rfl;apply J;clear J;exact wpAny_pure ⟨v,rfl,wpAny_pure (h tk u v h3 h4)⟩
theorem dictSetG_ok{d:Addr}{es:List DictEntry}{n:Nat}{ks vs:List V}{x u:V}{vx vu:Value}{rr:Option Nat}{Q:Unit->Shared->Prop}{E:Value->Shared->Prop}(hu:A.units+3 < cLine)(ho:s.heap.get? d=some (dictOf es n))(D:EntD w own ρ s.heap es ks vs)(hf:yL ks x=some rr)(hl:ks.length < 10000)
  (dx:Den w own ρ s.heap x vx) (du:Den w own ρ s.heap u vu)
  (h:∀ tk h' o',Heap.SameBut d s.heap h'->h'.get? d=some o'->ODen w own ρ s.heap (putK ks vs x u rr) o'->Q () { s with heap:=h',toks:=tk }):wpAny (model prog w) A (dictSet d vx vu) Q E s:=by
 have hlen:=D.len;unfold dictSet
 try with_reducible refine wpAny_holding ?_
 refine wpAny_bind (key_hash hu (key_at (qV hf).1 dx) s.toks _ _ fun tk=>?_);unfold dictSetHashed
 try with_reducible refine wpAny_holding ?_
 refine wpAny_bind (dictFind_ok (s:={ s with toks:=tk }) hu ho D hf dx ?_);induction rr using Option.casesOn with
 | none =>
  have e1:(Obj.mapDictKeys (fun es=>es.push ⟨xK w x,vx,vu⟩) (dictOf es n))=dictOf (es++[⟨xK w x,vx,vu⟩]) (n+1):=by
   show ({ cls:=.type "dict",data:=_ }:Obj)=_
   simp [dictOf]
  have hs:Heap.SameBut d s.heap (s.heap.update d (Obj.mapDictKeys fun es=>es.push ⟨xK w x,vx,vu⟩)):=Heap.SameBut.update ..;have g':=Heap.get?_update_self (Obj.mapDictKeys fun es=>es.push ⟨xK w x,vx,vu⟩) ho (by refine rwp e1 ?_;rfl);rw [e1] at g';refine wpAny_bind (wpAny_rule (wpAny_updateDictKeys (hz:=by refine rwp sizeLine_eq ?_;simp;lia) (s:={ s with toks:=tk }) ho rfl (h tk _ _ hs g' ?_)));apply gk;intro J;obtain ⟨d1,d2,d3⟩:=D;apply J;clear J;refine ⟨_,_,rfl,?_,?_,?_⟩
  ·refine rwp List.map_append ?_;refine rwp d1 ?_;have:xL w (ks++[x])=xL w ks++[xK w x]:=by
    have:∀ (l:List V),xL w (l++[x])=xL w l++[xK w x]:=fun l=>by
     induction l with
     | nil=>rfl
     | cons y l ih=>show xK w y::xL w (l++[x])=_;refine rwp ih ?_;rfl
    exact this ks
   refine rwp this ?_;rfl
  ·refine rwp List.map_append ?_;exact DenL.append (d2) (DenL.cons (dx) rfl)
  ·refine rwp List.map_append ?_;exact DenL.append (d3) (DenL.cons (du) rfl)
 | some j =>
  have h1:=findK_lt hf;have hj:j < es.length:=by simp_all
  have e1:(Obj.mapDict (fun es=>es.modify j fun e=>{ e with val:=vu }) (dictOf es n))=dictOf (es.modify j fun e=>{ e with val:=vu }) n:=by
   show ({ cls:=.type "dict",data:=_ }:Obj)=_
   simp [dictOf]
  have hs:Heap.SameBut d s.heap (s.heap.update d (Obj.mapDict fun es=>es.modify j fun e=>{ e with val:=vu })):=Heap.SameBut.update ..;have g':=Heap.get?_update_self (Obj.mapDict fun es=>es.modify j fun e=>{ e with val:=vu }) ho (by refine rwp e1 ?_;rfl);rw [e1] at g';refine wpAny_bind (wpAny_rule (wpAny_bind (wpAny_updateDict (s:={ s with toks:=tk }) ho rfl (wpAny_point (h tk _ _ hs g' ?_)))));apply gk;intro J;obtain ⟨d1,d2,d3⟩:=D;have mk:∀ (es:List DictEntry) (j:Nat),(es.modify j fun e=>{ e with val:=vu }).map DictEntry.key=es.map DictEntry.key/\(es.modify j fun e=>{ e with val:=vu }).map DictEntry.hash=es.map DictEntry.hash/\(es.modify j fun e=>{ e with val:=vu }).map DictEntry.val=(es.map DictEntry.val).set j vu:=fun es=>by
   induction es with
   | nil=>intro j;simp
   | cons e es ih =>
    intro j;induction j using Nat.casesAuxOn with
    | zero=>simp
    | succ j=>obtain ⟨a,b,c⟩:=ih j;simp [a,b,c]
  obtain ⟨m1,m2,m3⟩:=mk es j;apply J;clear J;refine ⟨_,_,rfl,by refine rwp m2 ?_;exact d1,by refine rwp m1 ?_;exact d2,?_⟩;refine rwp m3 ?_;exact DenL.set (d3) (du)
theorem dictSet_ok{i:Nat}{ks vs:List V}{k u:V}{d:Addr}{vk vu:Value}{r':Option Nat}(hA:AOk r A)(S:Sat w own L ρ m σ s.heap)(hi:σ[i]?=some (.dict ks vs))(hf:yL ks k=some r')(hl:ks.length < 10000)(hd:ρ[i]?=some d)
  (dk:Den w own ρ s.heap k vk) (du:Den w own ρ s.heap u vu) :
  wpAny (model prog w) A (dictSet d vk vu) (fun _ s'=>Step own L ρ s own ρ s'/\Sat w own L ρ m (σ.set i (putK ks vs k u r')) s'.heap) noE s:=by
 apply gk;intro J;obtain ⟨o,g,es,n,rfl,D⟩:=S.objs i _ d hi hd;apply J;clear J;refine dictSetG_ok (by have:=hA.u4;exact Nat.le_of_succ_le (by assumption)) g D hf hl dk du fun tk h' o' hs g' d'=>⟨Step.upd hd hs,S.upd hd hs g' d'⟩
end
end Mine
end
section
set_option tactic.hygienic false
set_option backward.match.sparseCases false
namespace Mine
section
variable{prog:Program}{w:World}{K:Frag}{mb:Str->Option Value}{A:Around}{own ρ:List Addr}{L:Addr}{m:Loc}{σ:List O}{s:Shared}{r:Nat}{T:Tabs}
theorem bytes_has_int{b:Array UInt8}{t u:Tok}{i:Int}(h0:0<=i)(h1:i < 256):Gives (Builtin.«bytes.__contains__» ⟨[.bytes b t,.int i u],[]⟩) (.val (.bool (b.contains i.toNat.toUInt8))):=by
 refine .of_wp fun M A E s Q hq=>?_;show wpAny M A (Builtin.Bytes.containsIn "bytes.__contains__" (.bytes b t) (.int i u) >>= fun r=>_) _ E s
 refine wpAny_bind ?_;unfold Builtin.Bytes.containsIn;refine wpAny_bind (wpAny_attempt (wpAny_of_eq (a:=i) rfl ?_));refine wpAny_bind (wpAny_of_eq KBy.buffer_eq ?_);show wpAny M A (if (decide (i < 0)||decide (i>=256))=true then _ else _) _ E s
 refine rwp (if_neg (by simp;simp_all)) ?_;exact wpAny_pure (wpAny_pure ⟨_,rfl,hq⟩)
theorem bytes_has_none{c:Array UInt8}{t u:Tok}:Meets (Builtin.«bytes.__contains__» ⟨[.bytes #[] t,.bytes c u],[]⟩) (fun A R s=>A.handled=none/\∀ h' tk,(∀ b o,s.heap.get? b=some o->h'.get? b=some o)->R (.ok (.ret (.bool c.isEmpty))) { s with heap:=h',toks:=tk }):=by
 refine .of_wp fun prog w A R s h=>?_;obtain ⟨hh,h⟩:=h;show wpAny _ _ (Builtin.Bytes.containsIn "bytes.__contains__" (.bytes #[] t) (.bytes c u) >>= fun r=>_) _ _ s
 refine wpAny_bind ?_;unfold Builtin.Bytes.containsIn;refine wpAny_bind (wpAny_attempt ?_);unfold asIndex;refine wpAny_bind (wpAny_of_eq (a:=none) rfl ?_);refine wpAny_bind ?_;have hs:callSpecial? (.bytes c u) "__index__" = pure none:=by
  have e:callSpecial? (.bytes c u) "__index__" = (do
   match <- typeLookup (.type "bytes") "__index__" with
   | none=>pure none
   | some f=>holding ([Value.bytes c u]++List.map (fun (x:Str×Value)=>x.2) []) do
    let (g,first) <- bindSpecial f (.bytes c u)
    return some (<- call g (first++[]) [])):=rfl
  rw [e,show typeLookup (.type "bytes") "__index__" = pure none from by rw [typeLookup_type,builtinLookup_eq_fast];kernel_rfl];rfl
 rw [hs];refine wpAny_pure ?_;have hn:typeNameOfCut 200 (.bytes c u)=pure "bytes" := by unfold typeNameOfCut;kernel_rfl
 rw [hn];refine wpAny_raiseErrorMade plainExc_TypeError hh (fun h' tk e hne=>?_) (by decide +kernel);refine wpAny_bind (wpAny_of_eq KBy.buffer_eq ?_);refine wpAny_bind (wpAny_of_eq KBy.buffer_eq ?_);refine wpAny_bind (wpAny_rule (wpAny_pure (wpAny_pure ⟨_,rfl,?_⟩)));have hf:(Builtin.Bytes.find? #[] c 0 (#[]:Array UInt8).size).isSome=c.isEmpty:=by
  unfold Builtin.Bytes.find?;obtain ⟨c⟩:=c;induction c using List.casesOn with
  | nil=>rfl
  | cons x r=>simp
 rw [hf];exact h h' tk (fun b o hb=>hne.1 b o hb)
theorem tup_lt{a b:Addr}{x y x' y':Int}{t u t' u':Tok}{n n':Nat}:Meets (Builtin.«tuple.__lt__» ⟨[.ref a,.ref b],[]⟩) (fun _ R s=>s.heap.get? a=some (xX #[.int x t,.int y u] n)/\s.heap.get? b=some (xX #[.int x' t',.int y' u'] n') /\
  R (.ok (.ret (.bool (if x=x' then decide (y < y') else decide (x < x'))))) s):=by
 refine .of_wp fun prog w A R s h=>?_;apply gk;intro J;obtain ⟨ga,gb,h⟩:=h;apply J;clear J;have hTb:s.TypeIs (.ref b) "tuple" := ⟨_,gb,rfl⟩
 show wpAny _ _ (isInstance (.ref b) (.type "tuple") >>= _) _ _ s
 refine wpAny_bind (wpAny_isInstance hTb isSubtype_tuple_tuple ?_);simp only [Bool.not_true,Bool.false_eq_true,if_false];refine wpAny_bind (wpAny_tupleItemsOf ga rfl ?_);refine wpAny_bind (wpAny_tupleItemsOf gb rfl ?_);refine wpAny_bind ?_;show wpAny _ _ (forIn [((Value.int x t),(Value.int x' t')),(.int y u,.int y' u')] _ _) _ _ s
 rw [List.forIn_cons];refine wpAny_bind (wpAny_bind (wpAny_eqBool_int ?_));by_cases hx:x=x'
 ·rw [if_pos hx] at h;subst hx;simp only [beq_self_eq_true,Bool.not_true,Bool.false_eq_true,if_false];refine wpAny_pure ?_;dsimp only;rw [List.forIn_cons];refine wpAny_bind (wpAny_bind (wpAny_eqBool_int ?_));by_cases hy:y=y'
  ·subst hy;simp only [beq_self_eq_true,Bool.not_true,Bool.false_eq_true,if_false];refine wpAny_pure ?_;dsimp only;refine rwp List.forIn_nil ?_;refine wpAny_pure ?_;refine wpAny_pure ⟨_,rfl,?_⟩;have:decide (y < y)=false:=decide_eq_false (by simp_all);rw [this] at h;exact h
  ·have e:(y==y')=false:=by simpa using hy
   refine rwp e ?_;simp only [Bool.not_false,if_true];refine wpAny_bind (wpAny_rule (wpAny_bind (wpAny_lt_int ?_)));refine wpAny_bind (wpAny_pure (wpAny_pure ?_));exact wpAny_pure (wpAny_pure ⟨_,rfl,h⟩)
 ·rw [if_neg hx] at h;have e:(x==x')=false:=by simpa using hx
  refine rwp e ?_;simp only [Bool.not_false,if_true];refine wpAny_bind (wpAny_rule (wpAny_bind (wpAny_lt_int ?_)));refine wpAny_bind (wpAny_pure (wpAny_pure ?_));exact wpAny_pure (wpAny_pure ⟨_,rfl,h⟩)
noncomputable abbrev InAt(prog:Program)(w:World)(A:Around)(s:Shared)(va vb:Value)(c:Bool):Prop:=∀ R:Value->Shared->Prop,((∀ s',Grow s s'->R (.bool c) s')->wpAny (model prog w) A (compareOp .In va vb) R noE s)/\((∀ s',Grow s s'->R (.bool (!c)) s')->wpAny (model prog w) A (compareOp .NotIn va vb) R noE s)
theorem in_of{va vb:Value}{c:Bool}(h:∀ R:Bool->Shared->Prop,(∀ s',Grow s s'->R c s')->wpAny (model prog w) A (contains vb va) R noE s):InAt prog w A s va vb c:=fun R =>
 ⟨fun hr=>wpAny_bind (h _ fun s' g=>wpAny_pure (hr s' g)),fun hr=>wpAny_bind (h _ fun s' g=>wpAny_pure (hr s' g))⟩
theorem any_byte{b:List UInt8}{x:Int}(h0:0<=x)(h1:x < 256):(⟨b⟩:Array UInt8).contains x.toNat.toUInt8=b.any fun c=>decide ((c.toNat:Int)=x):=by
 rw [Bool.eq_iff_iff];refine rwp List.contains_toArray ?_;rw [List.contains_iff_mem,List.any_eq_true];refine ⟨fun hm=>⟨_,hm,decide_eq_true (byte_back h0 h1)⟩,fun zz0=>?_⟩;obtain ⟨c,hm,hc⟩:=zz0;refine rwp (of_decide_eq_true hc).symm ?_;have:(c.toNat:Int).toNat.toUInt8=c:=UInt8.toNat_inj.mp (Nat.mod_eq_of_lt c.toNat_lt);refine rwp this ?_;exact hm
theorem any_den{h:Heap}{x:List UInt8}{bs:List (List UInt8)}:∀ {l:List Value},DenL w own ρ h (bs.map V.bytes) l->l.any (fun y=>match y with | .bytes b _=>decide (b.toList=x) | _=>false)=bs.any fun y=>decide (y=x):=by
 induction bs with
 | nil=>intro l d;rw [show l=[] from d];rfl
 | cons b bs ih =>
  intro l ⟨y,ys,e,⟨u,e1⟩,d⟩;rw [e,e1,List.any_cons,List.any_cons,ih d]
theorem mem_den{h:Heap}{bs:List (List UInt8)}:∀ {l:List Value} {y:Value},DenL w own ρ h (bs.map V.bytes) l->y∈l->∃ b u,y=.bytes ⟨b⟩ u:=by
 induction bs with
 | nil=>intro l y d hm;rw [show l=[] from d] at hm;exact absurd hm List.not_mem_nil
 | cons b bs ih =>
  intro l z ⟨y,ys,e,⟨u,e1⟩,d⟩ hm;rw [e] at hm;rcases List.mem_cons.mp hm with q | q
  ·exact ⟨b,u,q.trans e1⟩
  ·exact ih d q
theorem inP_ok{a b:V}{va vb:Value}{Q:Bool->Prop}(hA:AOk r A)(st:Stat K mb own s.heap)(S:Sat w own L ρ m σ s.heap)(h:inP σ a b Q)(da:Den w own ρ s.heap a va)(db:Den w own ρ s.heap b vb) :
  ∃ c,Q c/\InAt prog w A s va vb c:=by
 cases h with
 | @c0 x b h0 h1 hq =>
  obtain ⟨t,ea⟩:=da;obtain ⟨u,eb⟩:=db;refine rwp ea ?_;refine rwp eb ?_;refine ⟨_,hq,in_of fun R hr=>?_⟩;have g:=bytes_has_int (b:=⟨b⟩) (t:=u) (u:=t) h0 h1;rw [any_byte h0 h1] at g;exact wpAny_contains_slot (typeIs_bytes s _ u) FB.slot_bytes_contains (call_gives FB.slot_bytes_contains (typeIs_bytes s _ u) FB.entry_bytes_contains (FB.args_bytes_contains_2 _ _) g (wpAny_truthy_bool (hr s (Grow.refl s))))
 | @c1 x vs bs e hq =>
  rw [e] at db;obtain ⟨t,ea⟩:=da;obtain ⟨l,its,n,eb,_,g,dl⟩:=db;refine rwp ea ?_;refine rwp eb ?_;have hl:s.heap.IsTuple l its:=⟨_,g,rfl,n,rfl⟩
  have he:∀ y,y∈its->SeqAt.EqAt A.in1 s y (.bytes ⟨x⟩ t) (match y with | .bytes b _=>decide (b.toList=x) | _=>false):=fun y hy=>by
   obtain ⟨b,u,e⟩:=mem_den dl (Array.mem_toList_iff.mpr hy);refine rwp e ?_;exact fun prog w E Q hq=>eqBool_bytes (b:=⟨b⟩) (c:=⟨x⟩) hq
  have ea:=any_den (x:=x) dl;rw [Array.any_toList] at ea;exact ⟨_,hq,fun R=>⟨fun hr=>SeqAt.in_tupleAt _ hl he (ea ▸ hr s (Grow.refl s)),fun hr=>SeqAt.notIn_tupleAt _ hl he (ea ▸ hr s (Grow.refl s))⟩⟩
 | @c2 x xs hq =>
  obtain ⟨t,ea⟩:=da;obtain ⟨u,eb⟩:=db;refine rwp ea ?_;refine rwp eb ?_;exact ⟨_,hq,in_of fun R hr=>wpAny_contains_slot (typeIs_bytes s _ u) FB.slot_bytes_contains (wpAny_size (call_meets FB.slot_bytes_contains (typeIs_bytes s _ u) FB.entry_bytes_contains (FB.args_bytes_contains_2 _ _) bytes_has_none ⟨hA.handled,fun h' tk hk z=>wpAny_truthy_bool (hr _ ⟨rfl,rfl,z,hk⟩)⟩))⟩
 | c3 hd hf hq =>
  obtain ⟨l,es,n,e,nm,g,D⟩:=dct_at st S db hd;refine rwp e ?_;exact ⟨_,hq,in_of fun R hr=>inDict_ok hA.u4 nm g D hf da fun tk=>hr _ (Grow.tok s tk)⟩
theorem none_is{c:V}{v:Value}(d:Den w own ρ s.heap c v):(v==.none)=isNone c:=by
 induction c using Mine.V.casesOn <;> first
  | (refine rwp (show v=_ from d) ?_;rfl)
  | (obtain ⟨t,rfl⟩:=d;rfl)
  | (obtain ⟨a,_,_,rfl,_⟩:=d;rfl)
  | (obtain ⟨a,_,rfl,_⟩:=d;rfl)
  | (obtain ⟨a,rfl,_⟩:=d;rfl)
  | (obtain ⟨a,_,_,_,rfl,_⟩:=d;rfl)
  | (obtain ⟨a,_,_,_,_,rfl,_⟩:=d;rfl)
inductive CmpR(s:Shared)(Q:Bool->Prop)(v:Value)(s':Shared):Prop
 | mk (c:Bool) (e:v=.bool c) (g:Grow s s') (q:Q c)
theorem cmpP_ok{op:CmpOp}{a b:V}{va vb:Value}{Q:Bool->Prop}(hA:AOk r A)(st:Stat K mb own s.heap)(S:Sat w own L ρ m σ s.heap)(h:CmpP Q σ op a b)(da:Den w own ρ s.heap a va)(db:Den w own ρ s.heap b vb) :
  wpAny (model prog w) A (compareOp op va vb) (CmpR s Q) noE s:=by
 cases h with
 | c0 h=>exact let ⟨t,ea⟩:=da;let ⟨u,eb⟩:=db;by rw [ea,eb];exact P.lt_int ⟨_,rfl,Grow.refl _,h⟩
 | c1 h=>exact let ⟨t,ea⟩:=da;let ⟨u,eb⟩:=db;by rw [ea,eb];exact P.le_int ⟨_,rfl,Grow.refl _,h⟩
 | c2 h=>exact let ⟨t,ea⟩:=da;let ⟨u,eb⟩:=db;by rw [ea,eb];exact P.gt_int ⟨_,rfl,Grow.refl _,h⟩
 | c3 h=>exact let ⟨t,ea⟩:=da;let ⟨u,eb⟩:=db;by rw [ea,eb];exact P.ge_int ⟨_,rfl,Grow.refl _,h⟩
 | @c4 p1 p2 p3 p4 h =>
  apply gk;intro J;obtain ⟨ra,ia,na,era,_,ga,v1,l1,e1,⟨t1,et1⟩,v2,l2,e2,⟨t2,et2⟩,e3⟩:=da;obtain ⟨rb,ib,nb,erb,_,gb,u1,k1,f1,⟨t3,et3⟩,u2,k2,f2,⟨t4,et4⟩,f3⟩:=db;apply J;clear J;rw [show ia=#[.int p1 t1,.int p2 t2] from Array.toList_inj.mp (by rw [e1,e2,et1,et2,show l2=[] from e3])] at ga;rw [show ib=#[.int p3 t3,.int p4 t4] from Array.toList_inj.mp (by rw [f1,f2,et3,et4,show k2=[] from f3])] at gb;rw [era,erb];refine cmp_ofLt (richCompare_meets_room (op:=.Lt) ⟨_,ga,rfl⟩ ⟨_,gb,rfl⟩ F.slot_tuple_lt F.entry_tuple_lt (F.args_tuple_lt_2 _ _) tup_lt ⟨ga,gb,?_⟩ (by have:=hA.u4;lia));exact ⟨(fun q=>nomatch q),_,rfl,Grow.refl _,h⟩
 | c5 h=>exact let ⟨c,hq,hc⟩:=eqP_ok (prog:=prog) hA S h da db;(hc _).1 ⟨c,rfl,Grow.refl _,hq⟩
 | c6 h=>exact let ⟨c,hq,hc⟩:=eqP_ok (prog:=prog) hA S h da db;(hc _).2 ⟨!c,rfl,Grow.refl _,hq⟩
 | c7 h =>
  rw [show vb=.none from db];refine is_none_gen ?_;rw [none_is da];exact ⟨_,rfl,Grow.refl _,h⟩
 | c8 h =>
  rw [show vb=.none from db];refine isnot_none_gen ?_;rw [none_is da];exact ⟨_,rfl,Grow.refl _,h⟩
 | c9 h=>exact let ⟨c,hq,hc⟩:=inP_ok (prog:=prog) hA st S h da db;(hc _).1 fun s' g=>⟨c,rfl,g,hq⟩
 | c10 h=>exact let ⟨c,hq,hc⟩:=inP_ok (prog:=prog) hA st S h da db;(hc _).2 fun s' g=>⟨!c,rfl,g,hq⟩
end
end Mine
end
section
set_option tactic.hygienic false
set_option backward.match.sparseCases false
namespace Mine
noncomputable def isSliceE:Expr->Bool
 | .Slice ..=>true
 | _=>false
noncomputable abbrev sliceOf(a b c:Value):Obj:={ cls:=.type "slice",data:=.fields #[a,b,c] }
section
variable{prog:Program}{w:World}{K:Frag}{mb:Str->Option Value}{A:Around}{own ρ:List Addr}{L:Addr}{m:Loc}{σ:List O}{s:Shared}{r:Nat}{T:Tabs}
theorem subd{ie:Expr}{o i:Value}(h:isSliceE ie=false):subscripted ie false o i=operate [o,i] (getItem o i):=by
 induction ie using PySem.Expr.casesOn <;> first | rfl | cases h
theorem subP_ok{a i:V}{va vi:Value}{e ie:Expr}{Q:V->Prop}(hA:AOk r A)(st:Stat K mb own s.heap)(S:Sat w own L ρ m σ s.heap)(h:subP σ a i Q)(da:Den w own ρ s.heap a va)(di:Den w own ρ s.heap i vi)(hi:isSliceE ie=false) :
  wpAny (model prog w) A (subscriptTail e ie va vi) (PG w own ρ s Q) noE s:=by
 cases h with
 | @c0 b i c h0 hc hz hq =>
  apply gk;intro J;obtain ⟨t,ea⟩:=da;obtain ⟨u,ei⟩:=di;apply J;clear J;refine rwp ea ?_;refine rwp ei ?_;refine tail_any (T := "bytes") (typeIs_bytes s _ t) FB.slot_bytes_getitem.lookup ?_ (subd hi);have hlt:i.toNat < b.length:=(List.getElem?_eq_some_iff.mp hc).1;refine getItem_bytes (l:=b) (Nat.le_trans hz (by decide)) h0 ((Int.toNat_lt h0).mp hlt) ?_;refine rwp List.getD_eq_getElem?_getD ?_;refine rwp hc ?_;exact PG.int hq
 | @c1 vs i v h0 hz hg hq =>
  apply gk;intro J;obtain ⟨l,its,n,ea,_,g,d⟩:=da;obtain ⟨u,ei⟩:=di;apply J;clear J;refine rwp ea ?_;refine rwp ei ?_;apply gk;intro J;obtain ⟨x,hx,dx⟩:=d.get hg;apply J;clear J;rw [Array.getElem?_toList] at hx;have hlen:its.size=vs.length:=d.length;have hlt:i.toNat < its.size:=hlen ▸ (List.getElem?_eq_some_iff.mp hg).1;have hlt':i < its.size:=(Int.toNat_lt h0).mp hlt;refine tail_any (T := "tuple") ⟨_,g,rfl⟩ slot_tuple_getitem.lookup ?_ (subd hi);have hk:seqIndex? i its.size=some i.toNat:=by
   unfold seqIndex?;simp only [Int.not_lt.mpr h0,if_false];exact if_pos (by simp [h0,hlt'])
  exact P.getItem_tuple (k:=i.toNat) (y:=x) g (Int.le_trans (by decide) h0) (Int.lt_trans hz (by decide)) hk hx ⟨v,Grow.refl _,dx,hq⟩
 | @c2 a i vs v hl hz h0 hg hq =>
  apply gk;intro J;obtain ⟨l,its,n,ea,g,d⟩:=qU S da hl;obtain ⟨t,ei⟩:=di;apply J;clear J;refine rwp ea ?_;refine rwp ei ?_;apply gk;intro J;obtain ⟨u,hu,du⟩:=d.get hg;apply J;clear J;rw [Array.getElem?_toList] at hu;have hlen:its.size=vs.length:=d.length;have hL:s.heap.IsList l its:=⟨_,g,rfl,n,rfl⟩
  have hlt:(idx vs.length i).toNat < vs.length:=(List.getElem?_eq_some_iff.mp hg).1;refine tail_any (T := "list") ⟨_,g,rfl⟩ slot_list_getitem.lookup ?_ (subd hi);unfold idx at h0 hu hlt;by_cases hn:i < 0
  ·rw [if_pos hn] at h0 hu hlt;refine wpAny_getItem_list_neg (x:=u) hL hn (by lia) (by lia) ?_ ⟨v,Grow.refl _,du,hq⟩;refine rwp hlen ?_;exact hu
  ·rw [if_neg hn] at h0 hu hlt;exact wpAny_getItem_list (x:=u) hL (by simp_all) (by lia) hu ⟨v,Grow.refl _,du,hq⟩
 | c3 hd hf hv hq =>
  apply gk;intro J;obtain ⟨l,es,k,ea,nm,g,D⟩:=dct_at st S da hd;apply J;clear J;refine rwp ea ?_;refine tail_any (T := "dict") ⟨_,g,rfl⟩ slot_dict_getitem.lookup (getDict_ok hA.u4 g D hf di fun tk u vv h1 h2=>?_) (subd hi);rw [hv] at h1;exact ⟨_,Grow.tok s tk,Option.some.inj h1 ▸ h2,hq⟩
theorem subs{o:Value}{x:Addr}{lo hi se:Option Expr}{p:Pos}:∃ ops,subscripted (.Slice lo hi se p) false o (.ref x)=operate ops (getItem o (.ref x)):=by
 induction se using Option.casesOn <;> exact ⟨_,rfl⟩
theorem bnd_part{a:V}{va:Value}{l:Option Int}(h:bndOf a=some l)(d:Den w own ρ s.heap a va):IsPart va l:=by
 induction a using Mine.V.casesOn <;> cases h
 ·refine rwp (show va=.none from d) ?_;exact .none
 ·obtain ⟨t,rfl⟩:=d;exact .int _ t
theorem clamp_clip(n:Nat)(i:Int):clipAt n i=vB n i:=by
 have:=clipAt_cast n i;unfold vB;by_cases h:i < 0
 ·rw [if_pos h] at this ⊢;lia
 ·rw [if_neg h] at this ⊢;lia
theorem cut_eq{α:Type}(xs:List α)(l h:Option Int):(xs.drop (l.elim 0 (clipAt xs.length))).take (h.elim xs.length (clipAt xs.length) - l.elim 0 (clipAt xs.length))=cut xs l h:=by
 have e:∀ i,clipAt xs.length i=vB xs.length i:=clamp_clip xs.length;unfold cut;refine rwp List.drop_take.symm ?_;induction l using Option.casesOn <;> induction h using Option.casesOn <;> simp only [Option.elim,e]
theorem DenL.cut{h:Heap}{xs:List V}{ys:List Value}(d:DenL w own ρ h xs ys)(l u:Option Int):DenL w own ρ h (cut xs l u) (Mine.cut ys l u):=by
 unfold Mine.cut;refine rwp d.length ?_;exact DenL.drop _ (DenL.take _ d)
theorem newL_ok{ow:Bool}{vs:List V}{xs:Array Value}{Q:V->List O->Prop}{t:Tok}(S:Sat w own L ρ m σ s.heap)(h:newList ow vs σ Q)(d:DenL w own ρ s.heap vs xs.toList) :
  PV w own L ρ m s Q (.ref s.heap.objs.size) { s with heap:=s.heap.push (listOf xs 0),toks:=t }:=by
 induction ow using Bool.casesOn with
 | false=>exact ⟨own,ρ,.lst vs,σ,(Grow.push s _ t).step _ _ _,S.grows (Grow.push s _ t),⟨_,xs,0,rfl,fun q=>Nat.lt_irrefl _ (S.lt _ q),Heap.get?_push_size _ rfl,d.grow fun _ _ e=>Heap.get?_push_of_some _ e⟩,h⟩
 | true=>exact ⟨_,_,.loc σ.length,_,Step.alloc (t:=t),S.alloc (X:=.list vs) ⟨xs,0,rfl,d⟩ rfl,⟨_,rfl,by refine rwp S.len.symm ?_;simp⟩,h⟩
theorem newB_ok{ow:Bool}{b:List UInt8}{Q:V->List O->Prop}{t:Tok}(S:Sat w own L ρ m σ s.heap)(h:newBarr ow b σ Q) :
  PV w own L ρ m s Q (.ref s.heap.objs.size) { s with heap:=s.heap.push (yP b),toks:=t }:=by
 induction ow using Bool.casesOn with
 | false=>exact ⟨own,ρ,.barr b,σ,(Grow.push s _ t).step _ _ _,S.grows (Grow.push s _ t),⟨_,rfl,fun q=>Nat.lt_irrefl _ (S.lt _ q),Heap.get?_push_size _ rfl⟩,h⟩
 | true=>exact ⟨_,_,.loc σ.length,_,Step.alloc (t:=t),S.alloc (X:=.barr b) rfl rfl,⟨_,rfl,by refine rwp S.len.symm ?_;simp⟩,h⟩
theorem barr_at{a:V}{va:Value}{b:List UInt8}(S:Sat w own L ρ m σ s.heap)(d:Den w own ρ s.heap a va)(h:barOf σ a=some b):∃ l,va=.ref l/\s.heap.get? l=some (yP b):=by
 induction a using Mine.V.casesOn with
 | barr c=>refine rwp (Option.some.inj h).symm ?_;exact let ⟨l,e,_,g⟩:=d;⟨l,e,g⟩
 | loc i =>
  refine xQ h fun o e k=>?_;rw [oBar_of k] at e;obtain ⟨l,e1,hl⟩:=d;obtain ⟨o,g,e2⟩:=S.objs i _ l e hl;exact ⟨l,e1,e2 ▸ g⟩
 | _=>exact zK h
theorem slot_ba_getitem:Slot "bytearray" "__getitem__" "bytearray.__getitem__" :=
 .of (owner := "bytearray") (n := "__getitem__") (by rw [typeLookup_type,builtinLookup_eq_fast];kernel_rfl) (by decide +kernel) (by decide +kernel) (by decide +kernel)
  (by first | exact .inl (by decide +kernel) | exact .inr (by decide +kernel)) (by rw [isSubtype_type];kernel_rfl)
theorem entry_ba_getitem:entryFor table "bytearray.__getitem__" = some Builtin.«bytearray.__getitem__»:=by first | exact entryFor_of_tree (by kernel_rfl) | exact entryFor_of_fast (by kernel_rfl)
theorem owner_ba:Manifest.owners.lookup (String.ofList ['y','a','r','r','a','e','t','y','b'].reverse)=some Manifest.sig_bytearray:=by kernel_rfl
theorem args_ba_getitem(a b:Value):argsOk "bytearray.__getitem__" ⟨[a,b],[]⟩:=by
 unfold argsOk;refine rwp (signature?_of (id := "bytearray.__getitem__") (n:=['_','_','m','e','t','i','t','e','g','_','_']) (o:=['y','a','r','r','a','e','t','y','b']) (by kernel_rfl) owner_ba) ?_;kernel_rfl
theorem meets_ba_rev{l a:Addr}{b:List UInt8}{t:Tok}:Meets (Builtin.«bytearray.__getitem__» ⟨[.ref l,.ref a],[]⟩) (fun _ R s=>s.heap.get? l=some (yP b)/\s.heap.IsSliceOf a .none .none (.int (-1) t)/\b.length<=sizeLine /\
  R (.ok (.ret (.ref s.heap.objs.size))) { s with heap:=s.heap.push (yP b.reverse) }):=by
 refine .of_wp fun prog w A R s hS=>?_;apply gk;intro J;obtain ⟨hl,⟨o,ho,hc,hd⟩,hsz,h⟩:=hS;apply J;clear J;have hT:s.TypeIs (.ref a) "slice" := ⟨o,ho,hc⟩
 show wpAny _ _ (Builtin.Bytes.subscript? (.ref a) >>= fun r=>_) _ _ s
 refine wpAny_bind ?_;unfold Builtin.Bytes.subscript?;refine wpAny_bind (wpAny_specialOf hT slice_no_index (wpAny_pure ?_));refine wpAny_bind (wpAny_typeOf hT ?_);refine wpAny_bind ?_;refine wpAny_bind (wpAny_field (x:=.int (-1) t) ho hd rfl ?_)
 kby_int
 refine wpAny_ite (KBy.ite_no (show ¬ ((rawInt (-1)==rawInt 0)=true) from by decide) ?_);refine wpAny_bind (wpAny_field (x:=.none) ho hd rfl ?_)
 kby_none
 refine wpAny_bind (wpAny_field (x:=.none) ho hd rfl ?_)
 kby_none
 refine wpAny_pure ?_;refine wpAny_bind ?_;refine wpAny_bind (wpAny_bind (wpAny_load hl (wpAny_pure ?_)));refine wpAny_pure ?_;refine wpAny_bind (wpAny_of_eq (sliceIndices_raw none none (some (-1)) _ (fun e=>by cases e)) ?_);rw [krv_bounds];have e:Builtin.Bytes.sliced (⟨b⟩:Array UInt8) (((⟨b⟩:Array UInt8).size:Int) - 1) (-1) (-1)=⟨b.reverse⟩:=by
  unfold Builtin.Bytes.sliced;rw [krv_sliceRange,krv_range];refine rwp List.filterMap_reverse ?_;rw [krv_all]
 show wpAny _ _ (Builtin.Bytes.newBytearray (Builtin.Bytes.sliced (⟨b⟩:Array UInt8) (((⟨b⟩:Array UInt8).size:Int) - 1) (-1) (-1)) >>= fun r=>ret r) _ _ s
 refine rwp e ?_;refine wpAny_bind (wpAny_newObj_type (wpAny_pure ⟨_,rfl,h⟩) ?_);show (⟨b.reverse⟩:Array UInt8).size<=sizeLine
 simpa using hsz
theorem sliceP_ok{ow:Bool}{a l h st:V}{va vl vh vs:Value}{x:Addr}{e:Expr}{lo hi se:Option Expr}{p:Pos}{Q:V->List O->Prop}(hA:AOk r A)(S:Sat w own L ρ m σ s.heap)(hq:sliceP ow σ a l h st Q)
  (da:Den w own ρ s.heap a va) (dl:Den w own ρ s.heap l vl) (dh:Den w own ρ s.heap h vh) (ds:Den w own ρ s.heap st vs) (hx:s.heap.get? x=some (sliceOf vl vh vs)) :
  wpAny (model prog w) A (subscriptTail e (.Slice lo hi se p) va (.ref x)) (PV w own L ρ m s Q) noE s:=by
 obtain ⟨ops,hs⟩:=subs (o:=va) (x:=x) (lo:=lo) (hi:=hi) (se:=se) (p:=p);have hS:s.heap.IsSliceOf x vl vh vs:=⟨_,hx,rfl,rfl⟩
 cases hq with
 | @c0 b lb hb h1 h2 hz hq =>
  obtain ⟨t,ea⟩:=da;rw [show vs=.none from ds] at hS;rw [ea] at hs ⊢;refine tail_any (T := "bytes") (typeIs_bytes s _ t) FB.slot_bytes_getitem.lookup ?_ hs;refine getItem_meets (typeIs_bytes s _ t) (by decide) FB.slot_bytes_getitem FB.entry_bytes_getitem (FB.args_bytes_getitem_2 _ _) (KBc.meets_slice2 ⟨b⟩ t x (bnd_part h1 dl) (bnd_part h2 dh))
   ⟨hS,Nat.le_trans (KBc.size_picked_le _ _ _) (by show b.length<=sizeLine;exact hz),fun t' k=>?_⟩
  have e1:KBy.picked (⟨b⟩:Array UInt8) lb hb=⟨cut b lb hb⟩:=by
   rw [KBc.picked_eq];show (List.take _ (List.drop _ b)).toArray=_
   refine rwp (show (⟨b⟩:Array UInt8).size=b.length from rfl) ?_;rw [cut_eq]
  refine rwp e1 ?_;exact ⟨own,ρ,.bytes _,σ,(Grow.tok s k).step _ _ _,S,⟨t',rfl⟩,hq⟩
 | @c1 _ ys lb hb h0 h1 h2 hz hq =>
  obtain ⟨ll,its,n,ea,g,d⟩:=qU S da h0;rw [show vs=.none from ds] at hS;rw [ea] at hs ⊢;have hlen:its.size=ys.length:=d.length;refine tail_any (T := "list") ⟨_,g,rfl⟩ slot_list_getitem.lookup ?_ hs;refine wpAny_getItem_list_slice (st:=none) ⟨_,g,rfl,n,rfl⟩ hS (bnd_part h1 dl) (bnd_part h2 dh) .none (fun q=>by cases q) ?_ (hlen ▸ hz);rw [slicePick_plain];refine rwp (show its.size=its.toList.length from rfl) ?_;rw [cut_eq];exact newL_ok (t:=s.toks) S hq (d.cut lb hb)
 | @c2 _ ys h0 h1 h2 hz hq =>
  rw [xA h1] at dl;rw [xA h2] at dh;obtain ⟨t,es⟩:=ds;obtain ⟨ll,its,n,ea,g,d⟩:=qU S da h0;rw [es,show vl=.none from dl,show vh=.none from dh] at hS;rw [ea] at hs ⊢;have hlen:its.size=ys.length:=d.length;refine tail_any (T := "list") ⟨_,g,rfl⟩ slot_list_getitem.lookup ?_ hs;refine wpAny_getItem_list_slice (st:=some (-1)) ⟨_,g,rfl,n,rfl⟩ hS .none .none (.int _ t) (fun q=>by cases q) ?_ (hlen ▸ hz);rw [krv_pick];exact newL_ok (t:=s.toks) S hq (by simpa using DenL.reverse d)
 | @c3 _ b h0 h1 h2 hz hq =>
  rw [xA h1] at dl;rw [xA h2] at dh;obtain ⟨t,es⟩:=ds;obtain ⟨ll,ea,g⟩:=barr_at S da h0;rw [es,show vl=.none from dl,show vh=.none from dh] at hS;rw [ea] at hs ⊢;refine tail_any (T := "bytearray") ⟨_,g,rfl⟩ slot_ba_getitem.lookup ?_ hs;exact getItem_meets (T := "bytearray") ⟨_,g,rfl⟩ (by decide) slot_ba_getitem entry_ba_getitem (args_ba_getitem _ _) meets_ba_rev ⟨g,hS,hz,newB_ok (t:=s.toks) S hq⟩
end
end Mine
end
section
set_option tactic.hygienic false
namespace Mine
section
variable{prog:Program}{w:World}{K:Frag}{mb:Str->Option Value}{A:Around}{own ρ:List Addr}{L:Addr}{m:Loc}{σ:List O}{s:Shared}{r:Nat}{T:Tabs}
theorem unpack_ok{vs:List V}{va:Value}{n:Nat}(hA:AOk r A)(S:Sat w own L ρ m σ s.heap)(hn:vs.length=n)(da:Den w own ρ s.heap (.tup vs) va) :
  wpAny (model prog w) A (unpackItems va n none) (fun l s'=>Grow s s'/\DenL w own ρ s'.heap vs l) noE s:=by
 obtain ⟨l,its,k,rfl,_,g,d⟩:=da;have hlen:=d.length;simp only [Array.length_toList] at hlen;have e:n=its.size:=by simp [*]
 subst e;refine wpAny_size (wpAny_unpackItems_tuple hA.handled ⟨_,g,rfl,k,rfl⟩ fun h' he z=>?_);have gr:Grow s { s with heap:=h' }:=⟨rfl,rfl,z,fun b o q=>he b o (Nat.ne_of_lt (Heap.lt_size q)) q⟩
 exact ⟨gr,d.grow gr.keep⟩
theorem setList_ok{l:Addr}{items:Array Value}{ne:Nat}{k:Int}{t:Tok}{v:Value}{Q:Unit->Shared->Prop}{E:Value->Shared->Prop}(g:s.heap.get? l=some (listOf items ne))(hz:(items.size:Int) < 2 ^ 62)
  (h0:0<=idx items.size k) (hn:idx items.size k < items.size)
  (hQ:∀ h' n',Heap.SameBut l s.heap h'->h'.get? l=some (listOf (items.setIfInBounds (idx items.size k).toNat v) n')->Q () { s with heap:=h' }) :
  wpAny (model prog w) A (setItem (.ref l) (.int k t) v) Q E s:=by
 have hT:s.TypeIs (.ref l) "list" := ⟨_,g,rfl⟩
 unfold idx at h0 hn hQ;have hfit:Builtin.List.listFitsIndex k=true:=by
  simp only [Builtin.List.listFitsIndex,Bool.and_eq_true,decide_eq_true_eq];by_cases h:k < 0
  ·rw [if_pos h] at h0 hn;lia
  ·rw [if_neg h] at h0 hn;lia
 obtain ⟨j,hj,hjs⟩:∃ j:Nat,(if k < 0 then k+items.size else k)=(j:Nat)/\j < items.size:=⟨(if k < 0 then k+(items.size:Int) else k).toNat,(Int.toNat_of_nonneg h0).symm,by simp_all⟩
 unfold setItem
 try with_reducible refine wpAny_holding ?_
 first | refine wpAny_bind (wpAny_pure ?_) | skip
 refine wpAny_bind (wpAny_sequenceKey hT (by decide) ?_);refine wpAny_bind (wpAny_callSpecial?_slot (name:=Str.ofString "__setitem__") hT slot_list_setitem
  (wpAny_call_entry slot_list_setitem hT entry_list_setitem ?_ (args_list_setitem _ _ _)))
 show wpAny _ _ (Builtin.List.listSubscript? (.int k t) >>= _) _ _ s
 refine wpAny_bind (wpAny_listSubscript_int hfit ?_);rw [hj] at hQ;have hx':items[j]?=some items[j]:=Array.getElem?_eq_getElem hjs;obtain ⟨n',hd'⟩:=Obj.data_mapSeq (o:=listOf items ne) rfl (·.setIfInBounds j v);have fin:∀ h',h'=s.heap.update l (Obj.mapSeq (·.setIfInBounds j v))->Q () { s with heap:=h' }:=fun h' e=>by
  subst e;refine hQ _ n' (Heap.SameBut.update ..) ?_;have e1:Obj.mapSeq (·.setIfInBounds j v) (listOf items ne)=listOf (items.setIfInBounds j v) n':=by
   have:Obj.mapSeq (·.setIfInBounds j v) (listOf items ne)={ cls:=.type "list",data:=(Obj.mapSeq (·.setIfInBounds j v) (listOf items ne)).data }:=rfl;rw [this,hd']
  rw [Heap.get?_update_self _ g (by rw [e1];rfl),e1];rfl
 have rest:wpAny (model prog w) A.in1 (setSeqItemAt l j v >>= fun _=>(ret .none:Sem Fin)) (fun fin s'=>∃ u,fin=.done (.ret u)/\wpAny (model prog w) A (pure ()) Q E s') (fun e s'=>E e s') s :=
  wpAny_bind (wpAny_setSeqItemAt g rfl (wpAny_pure ⟨.none,rfl,wpAny_pure (fin _ rfl)⟩))
 induction k using Int.casesOn with
 | ofNat i =>
  have hi:¬ ((Int.ofNat i) < 0):=Int.not_lt.mpr (Int.ofNat_nonneg i);rw [if_neg hi] at hj;have hij:i=j:=Int.ofNat.inj hj;subst hij;refine wpAny_bind (wpAny_bind (wpAny_seqItemAt g rfl (wpAny_pure ?_)));rw [hx'];exact rest
 | negSucc i =>
  have hi:(Int.negSucc i) < 0:=Int.negSucc_lt_zero i;rw [if_pos hi] at hj;refine wpAny_bind (wpAny_bind ?_);refine wpAny_bind (wpAny_seqItems g rfl (wpAny_pure (wpAny_pure ?_)));have hs:seqIndex? (Int.negSucc i) items.size=some j:=by
   unfold seqIndex?;simp only [if_pos hi,hj];rw [if_pos (by simp;omega)];simp
  rw [hs];simp only [Option.bind_some,hx',Option.map_some];exact rest
theorem setItem_ok{a i u:V}{va vi vu:Value}{Q:List O->Prop}(hA:AOk r A)(S:Sat w own L ρ m σ s.heap)(h:setItemP σ a i u Q)(da:Den w own ρ s.heap a va)(di:Den w own ρ s.heap i vi)(du:Den w own ρ s.heap u vu) :
  wpAny (model prog w) A (setItem va vi vu) (PU w own L ρ s fun m' σ'=>m'=m/\Q σ') noE s:=by
 cases h with
 | @c0 l i vs hl hz h0 h1 hq =>
  apply gk;intro J;obtain ⟨a,rfl,ha⟩:=da;obtain ⟨t,rfl⟩:=di;obtain ⟨o,g,its,n,rfl,d⟩:=S.objs l _ a hl ha;apply J;clear J;have hlen:=d.length;simp only [Array.length_toList] at hlen;rw [<- hlen] at h0 h1 hz;refine setList_ok g hz h0 h1 fun h' n' hs g'=>?_;refine ⟨own,ρ,m,_,Step.upd (t:=s.toks) ha hs,S.upd (X':=.list (vs.set (idx vs.length i).toNat u)) ha hs g' ⟨_,n',rfl,?_⟩,rfl,hq⟩;refine rwp Array.toList_setIfInBounds ?_;refine rwp hlen ?_;exact DenL.set d du
 | @c1 l _ ks vs rr hl hf hz hq =>
  apply gk;intro J;obtain ⟨a,rfl,ha⟩:=da;obtain ⟨o,g,es,n,rfl,D⟩:=S.objs l _ a hl ha;apply J;clear J;have hT:s.TypeIs (.ref a) "dict" := ⟨_,g,rfl⟩
  unfold setItem
  try with_reducible refine wpAny_holding ?_
  refine wpAny_bind (wpAny_sequenceKey hT (by decide) ?_);refine wpAny_bind (wpAny_callSpecial?_slot (name:=Str.ofString "__setitem__") hT slot_dict_setitem
   (wpAny_call_entry slot_dict_setitem hT entry_dict_setitem ?_ (args_dict_setitem _ _ _)))
  refine wpAny_bind (wpAny_notOrdered_dict hT ?_);show wpAny _ _ (dictSet a vi vu >>= _) _ _ s
  refine wpAny_bind (dictSetG_ok (show A.units+1+3 < cLine by have:=hA.u4;omega) g D hf hz di du fun tk h' o' hs g' d'=>wpAny_pure ⟨.none,rfl,wpAny_pure ?_⟩);exact ⟨own,ρ,m,_,Step.upd (t:=tk) ha hs,S.upd ha hs g' d',rfl,hq⟩
end
end Mine
end
section
open Builtin
set_option backward.match.sparseCases false
namespace Mine
section
variable{prog:Program}{w:World}{K:Frag}{mb:Str->Option Value}{A:Around}{own ρ:List Addr}{L:Addr}{m:Loc}{σ:List O}{s:Shared}{r:Nat}{T:Tabs}
theorem keys_noref{h:Heap}:∀ {ns:List Str} {es:List DictEntry},xW ns (es.map DictEntry.key)->es.any (·.refKey)=false
 | [],[],_=>rfl
 | [],_::_,e=>by cases e
 | _::_,[],⟨_,_,e,_⟩=>by cases e
 | x::ns,e::es,⟨t,ys,q,r⟩=>by
  obtain ⟨q1,q2⟩:=List.cons.inj q;subst q2;refine rwp List.any_cons ?_;refine rwp (keys_noref (h:=h) r) ?_;rw [Bool.or_false];obtain ⟨eh,ek,ev⟩:=e;dsimp only at q1;subst q1;rfl
theorem isStr_eq{x y:Str}{t:Tok}:(Value.str x t).isStr y=(x==y):=rfl
theorem keys_none{ns:List Str}{es:List DictEntry}{x:Str}(hk:xW ns (es.map DictEntry.key))(hx:ns.contains x=false):es.find? (·.key.isStr x)=none:=by
 induction es generalizing ns with
 | nil=>rfl
 | cons e es ih =>
  induction ns using List.casesOn with
  | nil=>cases hk
  | cons n ns =>
   obtain ⟨t,ys,q,r⟩:=hk;obtain ⟨q1,q2⟩:=List.cons.inj q;subst q2;rw [List.contains_cons,Bool.or_eq_false_iff] at hx;refine rwp List.find?_cons ?_;refine rwp q1 ?_;refine rwp isStr_eq ?_;have:(n==x)=false:=by refine rwp hx.1.symm ?_;exact Bool.eq_iff_iff.mpr (by rw [beq_iff_eq,beq_iff_eq];exact eq_comm)
   refine rwp this ?_;exact ih r hx.2
theorem keys_some{h:Heap}{ns:List Str}{vs:List V}{es:List DictEntry}{x:Str}{u:V}(hk:xW ns (es.map DictEntry.key))(d:DenL w own ρ h vs (es.map DictEntry.val))(hx:(ns.zip vs).lookup x=some u) :
  ∃ v,getL x es=some (some v)/\Den w own ρ h u v:=by
 unfold getL;induction es generalizing ns vs with
 | nil =>
  induction ns using List.casesOn with
  | nil=>cases hx
  | cons n ns=>obtain ⟨_,_,e,_⟩:=hk;cases e
 | cons e es ih =>
  induction ns using List.casesOn with
  | nil=>cases hk
  | cons n ns =>
   induction vs using List.casesOn with
   | nil=>cases d
   | cons v vs =>
    apply gk;intro J;obtain ⟨t,ys,q,r⟩:=hk;obtain ⟨q1,q2⟩:=List.cons.inj q;apply J;clear J;subst q2;apply gk;intro J;obtain ⟨y,ys,q,d1,d2⟩:=d;obtain ⟨q3,q4⟩:=List.cons.inj q;apply J;clear J;subst q4;rw [List.find?_cons,q1,isStr_eq];rw [List.zip_cons_cons,List.lookup_cons] at hx;by_cases hn:x=n
    ·subst hn;rw [beq_self_eq_true] at hx ⊢;cases hx;exact ⟨y,by rw [<- q3],d1⟩
    ·rw [beq_false_of_ne hn] at hx;rw [beq_false_of_ne (Ne.symm hn)];apply gk;intro J;obtain ⟨v',e1,e2⟩:=ih r d2 hx;apply J;clear J;refine ⟨v',?_,e2⟩;split at e1
     ·rename_i e' he;rw [he];exact e1
     ·split at e1 <;> cases e1
theorem hand_of{h:Heap}{u:V}{v:Value}(hu:handV u=true)(d:Den w own ρ h u v):handedIn v=true:=by
 induction u using Mine.V.casesOn with
 | bi id=>cases hu
 | none=>refine rwp (show v=.none from d) ?_;rfl
 | bool b=>refine rwp (show v=.bool b from d) ?_;rfl
 | ref b=>refine rwp (show v=.ref b from d) ?_;rfl
 | ty b=>refine rwp (show v=.type b from d) ?_;rfl
 | int i=>obtain ⟨_,rfl⟩:=d;rfl
 | str i=>obtain ⟨_,rfl⟩:=d;rfl
 | bytes i=>obtain ⟨_,rfl⟩:=d;rfl
 | tup i=>obtain ⟨_,_,_,rfl,_⟩:=d;rfl
 | lst i=>obtain ⟨_,_,_,rfl,_⟩:=d;rfl
 | barr i=>obtain ⟨_,rfl,_⟩:=d;rfl
 | rng i=>obtain ⟨_,_,_,_,_,rfl,_⟩:=d;rfl
 | obj=>obtain ⟨_,_,_,_,rfl,_⟩:=d;rfl
 | dct=>obtain ⟨_,_,_,rfl,_⟩:=d;rfl
 | loc=>obtain ⟨_,rfl,_⟩:=d;rfl
theorem inst_at{h:Heap}{x c dx:Addr}{es:List DictEntry}{n:Nat}(g:h.get? x=some (instObj c dx))(gd:h.get? dx=some (dictOf es n)):InstAt h x (instObj c dx) c (some (dictOf es n)):=⟨g,rfl,rfl,gd⟩
theorem own_get{c x dx:Addr}{ci:Addr×List (Str×Addr)×List Str}{name:Str}{es:List DictEntry}{n:Nat}{v:Value}{E:Value->Shared->Prop}{Q:Value->Shared->Prop}(hC:ClsOk K c ci)(hK:K.In s.heap)(hn:ci.2.2.contains name=true)
  (g:s.heap.get? x=some (instObj c dx)) (gd:s.heap.get? dx=some (dictOf es n)) (hl:getL name es=some (some v)) (hv:handedIn v=true) (h:Q v { s with toks:=s.toks+1 }) :
  wpAny (model prog w) A (getAttr (.ref x) name true) Q E s :=
 get_value hK (inst_at g gd) (plainGet_of hC.get).1 (findObj_own hC.hd (hC.attrs name hn) rfl hl) hv h
theorem attr_ok{a u:V}{va:Value}{x:Str}(hC:∀ c ci,T.clss.lookup c=some ci->ClsOk K c ci)(hK:K.In s.heap)(S:Sat w own L ρ m σ s.heap)(h:attrOf σ T a x=some u)(da:Den w own ρ s.heap a va) :
  wpAny (model prog w) A (getAttr va x true) (fun v s'=>Grow s s'/\Den w own ρ s'.heap u v) noE s:=by
 have fin:∀ {c:Addr} {ns:List Str} {vs:List V} {ci:Addr×List (Str×Addr)×List Str} {l dx:Addr} {es:List DictEntry} {n:Nat},T.clss.lookup c=some ci->(if ci.2.2.contains x then ((ns.zip vs).lookup x).filter handV else none)=some u->va=.ref l ->
   s.heap.get? l=some (instObj c dx)->s.heap.get? dx=some (dictOf es n)->xW ns (es.map DictEntry.key)->DenL w own ρ s.heap vs (es.map DictEntry.val)->wpAny (model prog w) A (getAttr va x true) (fun v s'=>Grow s s'/\Den w own ρ s'.heap u v) noE s:=by
  intro c ns vs ci l dx es n hc h e g g2 ks d;by_cases hx:ci.2.2.contains x=true
  ·rw [if_pos hx] at h;have hz:=Option.filter_eq_some_iff.mp h;apply gk;intro J;obtain ⟨v,e1,e2⟩:=keys_some ks d hz.1;apply J;clear J;refine rwp e ?_;exact own_get (hC c ci hc) hK hx g g2 e1 (hand_of hz.2 e2) ⟨Grow.tok _ _,e2⟩
  ·rw [if_neg hx] at h;exact zK h
 induction a using Mine.V.casesOn with
 | loc i =>
  refine xQ h fun cj hi h=>xQ h fun nv hj h=>xQ h fun ci hc h=>xQ hi fun o1 hi k1=>xQ hj fun o2 hj k2=>?_;rw [oIns_of k1] at hi;rw [oAtt_of k2] at hj;apply gk;intro J;obtain ⟨l,e,ha⟩:=da;obtain ⟨o,g,dx,hd,e1⟩:=S.objs i _ l hi ha;obtain ⟨o2,g2,es,n,e2,ks,d⟩:=S.objs cj.2 _ dx hj hd;apply J;clear J;exact fin hc h e (e1 ▸ g) (e2 ▸ g2) ks d
 | obj c ns vs =>
  apply gk;intro J;obtain ⟨a,dx,es,n,e,_,_,g,g2,ks,d⟩:=da;apply J;clear J;exact xQ h fun ci hc h=>fin hc h e g g2 ks d
 | _=>exact zK h
theorem own_meth{c x dx f:Addr}{ci:Addr×List (Str×Addr)×List Str}{name:Str}{es:List DictEntry}{n:Nat}{ns:List Str}{pl:Sem Bool}{E:Value->Shared->Prop}{Q:Value×List Value->Shared->Prop}(hC:ClsOk K c ci)(hK:K.In s.heap)(hn:ns.contains name=false)
  (hf:ci.2.1.lookup name=some f) (g:s.heap.get? x=some (instObj c dx)) (gd:s.heap.get? dx=some (dictOf es n)) (hk:xW ns (es.map DictEntry.key)) (h:Q (.ref f,[.ref x]) s) :
  wpAny (model prog w) A (getMethod (.ref x) name pl) Q E s:=by
 obtain ⟨h1,h2⟩:=hC.meths name f hf;refine method_fn hK (inst_at g gd) (plainGet_of hC.get).1 (plainGet_of hC.get).2 h1 h2 ?_ h;show (lookIn name (dictOf es n)).map _=_
 rw [lookIn_dict,getL];refine rwp (keys_none hk hn) ?_;refine rwp (keys_noref (h:=s.heap) hk) ?_;rfl
theorem meth_ok{a:V}{va:Value}{x:Str}{f:Addr}{pl:Sem Bool}(hC:∀ c ci,T.clss.lookup c=some ci->ClsOk K c ci)(hK:K.In s.heap)(S:Sat w own L ρ m σ s.heap)(h:methOf T σ a x=some f)(da:Den w own ρ s.heap a va) :
  wpAny (model prog w) A (getMethod va x pl) (fun q s'=>q=(.ref f,[va])/\Grow s s') noE s:=by
 unfold methOf at h;split at h
 ·rename_i i
  apply gk;intro J;obtain ⟨a,rfl,ha⟩:=da;apply J;clear J;split at h
  ·rename_i c j hi
   split at h
   ·rename_i ns vs ci hj hc
    split at h
    ·cases h
    ·rename_i hx
     apply gk;intro J;obtain ⟨o,g,dx,hd,rfl⟩:=S.objs i _ a hi ha;obtain ⟨o2,g2,es,n,rfl,ks,d⟩:=S.objs j _ dx hj hd;apply J;clear J;exact own_meth (hC c ci hc) hK (by simpa using hx) h g g2 ks ⟨rfl,Grow.refl _⟩
   ·cases h
  ·cases h
 ·rename_i c ns vs
  apply gk;intro J;obtain ⟨a,dx,es,n,rfl,_,_,g,g2,ks,d⟩:=da;apply J;clear J;split at h
  ·rename_i ci hc
   split at h
   ·cases h
   ·rename_i hx
    exact own_meth (hC c ci hc) hK (by simpa using hx) h g g2 ks ⟨rfl,Grow.refl _⟩
  ·cases h
 ·cases h
theorem put_ok{h:Heap}{ns:List Str}{vs:List V}{es:List DictEntry}{x:Str}{u:V}{v:Value}{hs:Int}{tk:Tok}(hk:xW ns (es.map DictEntry.key))(d:DenL w own ρ h vs (es.map DictEntry.val))(du:Den w own ρ h u v) :
  xW (putA ns vs x u).1 ((putL x hs (.str x tk) v es).map DictEntry.key)/\DenL w own ρ h (putA ns vs x u).2 ((putL x hs (.str x tk) v es).map DictEntry.val):=by
 induction es generalizing ns vs with
 | nil =>
  induction ns using List.casesOn with
  | nil =>
   exact ⟨⟨tk,[],rfl,rfl⟩,⟨v,[],rfl,du,rfl⟩⟩
  | cons n ns=>obtain ⟨_,_,e,_⟩:=hk;cases e
 | cons e es ih =>
  induction ns using List.casesOn with
  | nil=>cases hk
  | cons n ns =>
   induction vs using List.casesOn with
   | nil=>cases d
   | cons v' vs =>
    apply gk;intro J;obtain ⟨t,ys,q,r⟩:=hk;obtain ⟨q1,q2⟩:=List.cons.inj q;apply J;clear J;subst q2;apply gk;intro J;obtain ⟨y,ys,q,d1,d2⟩:=d;obtain ⟨q3,q4⟩:=List.cons.inj q;apply J;clear J;subst q4;unfold putA putL;rw [q1,isStr_eq];by_cases hn:n=x
    ·subst hn;rw [beq_self_eq_true,if_pos rfl,if_pos rfl];exact ⟨⟨t,_,rfl,r⟩,⟨v,_,rfl,du,d2⟩⟩
    ·rw [beq_false_of_ne hn,if_neg (by decide),if_neg (by decide)];apply gk;intro J;obtain ⟨k1,k2⟩:=ih r d2;apply J;clear J;exact ⟨⟨t,_,by rw [List.map_cons,q1],k1⟩,⟨y,_,by rw [List.map_cons,q3],d1,k2⟩⟩
theorem putL_len{x:Str}{hs:Int}{k v:Value}:∀ {es:List DictEntry},(putL x hs k v es).length<=es.length+1:=by
 intro zv;induction zv with
 | nil =>
  simp [putL]
 | cons e es ih =>
  unfold putL;split
  ·simp
  ·have:=ih;simp only [List.length_cons];simp_all
theorem keys_len{ns:List Str}{l:List Value}(h:xW ns l):l.length=ns.length:=by
 induction ns generalizing l with
 | nil=>rw [h];rfl
 | cons n ns ih=>obtain ⟨t,ys,rfl,r⟩:=h;rw [List.length_cons,List.length_cons,ih r]
theorem own_osa{c x dx:Addr}{ci:Addr×List (Str×Addr)×List Str}{name:Str}{es:List DictEntry}{n:Nat}{ns:List Str}{v:Value}{t0:Tok}{R:Result->Shared->Prop}(hC:ClsOk K c ci)(hK:K.In s.heap)(hn:ci.2.2.contains name=true)
  (g:s.heap.get? x=some (instObj c dx)) (gd:s.heap.get? dx=some (dictOf es n)) (hk:xW ns (es.map DictEntry.key)) (hz:ns.length < 1000)
  (h:∀ h' hs tk tk',Heap.SameBut dx s.heap h'->h'.get? dx=some (dictOf (putL name hs (.str name tk) v es) (putN name es n))->R (.ok (.ret .none)) { s with heap:=h',toks:=tk' }) :
  codeAny (model prog w) A (.call (.builtin "object.__setattr__") ⟨[.ref x,.str name t0,v],[]⟩) R s:=by
 have I:=inst_at g gd;have ht:takerIn K c name=some none:=by unfold takerIn;refine rwp (hC.attrs name hn) ?_;rfl
 refine osa_open hK I hC.over ht fun b=>?_;apply gk;intro J;obtain ⟨cd,hc,hd'⟩:=any_some hC.hd;apply J;clear J;refine wpAny_bind (wpAny_pure (wpAny_bind (wpAny_bind (wpAny_loadPart g (wpAny_bind ((looks_clsIn hK hc).here ?_))))));refine rwp hd' ?_;refine wpAny_pure (a:=some dx) (wpAny_bind (wpAny_pure (wpAny_bind ?_)));refine wpAny_bind (wpAny_bind (wpAny_askSetting (wpAny_pure (wpAny_bind (wpAny_mkText (wpAny_bind (wpAny_loadPart gd ?_)))))));have hnr:=keys_noref (h:=s.heap) hk;have c0:(!es.toArray.any (·.key.isStr name)&&es.toArray.any (·.refKey))=false:=by
  refine rwp Array.any_toList.symm ?_;refine rwp Array.any_toList.symm ?_;refine rwp hnr ?_;rw [Bool.and_false]
 dsimp only [dictOf];rw [aRefKeyMayBeTheName_at];refine rwp c0 ?_;refine wpAny_updatePart gd ?_;have e:=putName_dict name (PyData.keyHash w.params name) (.str name s.toks) v es n;have D':=Heap.get?_update_self (h:=s.heap) (a:=dx) (Obj.putName name (PyData.keyHash w.params name) (.str name s.toks) v) gd (by refine rwp e ?_;rfl);rw [e] at D';have hl:=keys_len hk;rw [List.length_map] at hl;refine wpAny_bind (wpAny_lookBehind D' (pastItsLine_dict (by have:=putL_len (x:=name) (hs:=PyData.keyHash w.params name) (k:=.str name s.toks) (v:=v) (es:=es);refine rwp List.size_toArray ?_;refine rwp sizeLine_eq ?_;lia)) ?_);exact wpAny_pure (h _ _ _ _ (Heap.SameBut.update _ _ _) D')
theorem own_set{c x dx:Addr}{ci:Addr×List (Str×Addr)×List Str}{name:Str}{es:List DictEntry}{n:Nat}{ns:List Str}{v:Value}{E:Value->Shared->Prop}{Q:Unit->Shared->Prop}(hC:ClsOk K c ci)(hK:K.In s.heap)(hn:ci.2.2.contains name=true)
  (g:s.heap.get? x=some (instObj c dx)) (gd:s.heap.get? dx=some (dictOf es n)) (hk:xW ns (es.map DictEntry.key)) (hz:ns.length < 1000)
  (h:∀ h' hs tk tk',Heap.SameBut dx s.heap h'->h'.get? dx=some (dictOf (putL name hs (.str name tk) v es) (putN name es n))->Q () { s with heap:=h',toks:=tk' }) :
  wpAny (model prog w) A (setAttr (.ref x) name v) Q E s :=
 set_plain hK (inst_at g gd) hC.set (own_osa (s:={ s with toks:=s.toks+1 }) hC hK hn g gd hk hz fun h' hs tk tk' a b=>h h' hs tk tk' a b)
theorem setAttr_ok{a u:V}{va vu:Value}{x:Str}{Q:List O->Prop}(hC:∀ c ci,T.clss.lookup c=some ci->ClsOk K c ci)(hA:AOk r A)(hK:K.In s.heap)(S:Sat w own L ρ m σ s.heap)(h:setAttrP σ T a x u Q)(da:Den w own ρ s.heap a va)(du:Den w own ρ s.heap u vu) :
  wpAny (model prog w) A (setAttr va x vu) (PU w own L ρ s fun m' σ'=>m'=m/\Q σ') noE s:=by
 cases h with
 | @mk i c j ns vs ci hi hj hc hx hz q =>
  apply gk;intro J;obtain ⟨a,e,ha⟩:=da;obtain ⟨o,g,dx,hd,e1⟩:=S.objs i _ a hi ha;obtain ⟨o2,g2,es,n,e2,ks,d⟩:=S.objs j _ dx hj hd;apply J;clear J;refine rwp e ?_;refine own_set (hC c ci hc) hK hx (e1 ▸ g) (e2 ▸ g2) ks hz fun h' hs tk tk' sb g'=>?_;have k:=put_ok (x:=x) (hs:=hs) (tk:=tk) ks d du;exact ⟨own,ρ,m,_,Step.upd (t:=tk') hd sb,S.upd (X':=.attrs _ _) hd sb g' ⟨_,_,rfl,k.1,k.2⟩,rfl,q⟩
end
end Mine
end
section
set_option tactic.hygienic false
namespace Mine
noncomputable def kY:Code->Bool
 | .builtin id _=>Builtin.Bytes.decodersThatHold.contains id
 | _=>false
noncomputable def Good(Γ:Ctx):Prop:=kY Γ.code=false/\∀ x∈Γ.below,kY x.1=false
theorem Good.enter{Γ:Ctx}(g:Good Γ){c:Code}(hd:kY c=false)(h:Option Value)(p:Pos):Good (Γ.enter c h p) :=
 ⟨hd,fun x hx=>by
  rcases List.mem_cons.mp (show x∈(Γ.code,p)::Γ.below from hx) with rfl | hx
  ·exact g.1
  ·exact g.2 x hx⟩
theorem Good.goto{Γ:Ctx}(g:Good Γ){c:Code}(hd:kY c=false):Good (Γ.goto c):=⟨hd,g.2⟩
noncomputable def wpAny{α:Type}(M:Model)(A:Around)(t:Sem α)(Q:α->Shared->Prop)(E:Value->Shared->Prop)(s:Shared):Prop :=
 ∀ Γ p,Γ.In A->Good Γ->Sem.wp M Γ t (fun a _ s'=>Q a s') (fun e _ s'=>E e s') p s
noncomputable def codeAny(M:Model)(A:Around)(c:Code)(R:Result->Shared->Prop)(s:Shared):Prop :=
 ∀ Γ p,Γ.code=c->Γ.Below A->Good Γ->wpCode M Γ R p s
section
variable{α β:Type}{M:Model}{A:Around}{E:Value->Shared->Prop}{s:Shared}{env:Env}
theorem up{t:Sem α}{Q:α->Shared->Prop}(h:PySem.wpAny M A t Q E s):wpAny M A t Q E s:=fun Γ p hΓ _=>h Γ p hΓ
theorem upc{c:Code}{R:Result->Shared->Prop}(h:PySem.codeAny M A c R s):codeAny M A c R s:=fun Γ p hc hΓ _=>h Γ p hc hΓ
theorem wpAny_pure{a:α}{Q:α->Shared->Prop}(h:Q a s):wpAny M A (pure a) Q E s:=fun _ _ _ _=>h
theorem wpAny_mono{t:Sem α}{Q Q':α->Shared->Prop}{E':Value->Shared->Prop}(h:wpAny M A t Q E s)
  (hQ:∀ a s,Q a s->Q' a s) (hE:∀ e s,E e s->E' e s):wpAny M A t Q' E' s :=
 fun Γ p hΓ g=>Sem.wp_mono M Γ t (fun a _ s=>hQ a s) (fun e _ s=>hE e s) p s (h Γ p hΓ g)
theorem wpAny_bind{m:Sem α}{f:α->Sem β}{Q:β->Shared->Prop}(h:wpAny M A m (fun a s'=>wpAny M A (f a) Q E s') E s) :
  wpAny M A (m >>= f) Q E s:=fun Γ p hΓ g=>by
 rw [Sem.wp_bind'];exact Sem.wp_mono M Γ m (fun a p' s' h'=>h' Γ p' hΓ g) (fun _ _ _ h'=>h') p s (h Γ p hΓ g)
theorem wpAny_onRaise{m:Sem α}{k:Value->Sem Unit}{Q:α->Shared->Prop}
  (h:wpAny M A m Q (fun e s'=>wpAny M A (k e) (fun _ s''=>E e s'') E s') s):wpAny M A (m.onRaise k) Q E s:=fun Γ p hΓ g=>by
 rw [Sem.wp_onRaise];exact Sem.wp_mono M Γ m (fun _ _ _ h'=>h') (fun e p' s' h'=>h' Γ p' hΓ g) p s (h Γ p hΓ g)
theorem wpAny_quiet{m:Sem α}{k:Value->Sem Unit}{Q:α->Shared->Prop}(h:wpAny M A m Q noE s):wpAny M A (m.onRaise k) Q E s :=
 wpAny_onRaise (wpAny_mono h (fun _ _ x=>x) fun _ _ x=>x.elim)
theorem wpAny_attempt{m:Sem α}{Q:Except Value α->Shared->Prop}(h:wpAny M A m (fun a=>Q (.ok a)) (fun e=>Q (.error e)) s) :
  wpAny M A m.attempt Q E s:=fun Γ p hΓ g=>by rw [Sem.wp_attempt];exact h Γ p hΓ g
theorem wpAny_holding{vs:List Value}{m:Sem α}{Q:α->Shared->Prop}(h:wpAny M A m Q E s):wpAny M A (holding vs m) Q E s :=
 fun Γ p hΓ g=>by rw [Sem.wp_holding];exact h Γ p hΓ g
theorem wpAny_keep{vs:List Value}{m:Sem α}{Q:α->Shared->Prop}(h:wpAny M A m Q E s):wpAny M A (m.keep vs) Q E s :=
 fun Γ p hΓ g=>by rw [Sem.wp_keep];exact h Γ p hΓ g
theorem wpAny_operateT{vs:List Value}{m:Sem Value}{Q:Value->Shared->Prop}(h:wpAny M A m Q E s):wpAny M A (operate vs m) Q E s :=
 fun Γ p hΓ g=>by rw [Sem.wp_operate];exact h Γ p hΓ g
theorem wpAny_standAt{pos:Pos}{Q:Unit->Shared->Prop}(h:Q () s):wpAny M A (standAt pos) Q E s:=fun _ _ _ _=>h
theorem wpAny_rule{tag:String}{Q:Unit->Shared->Prop}(h:Q () s):wpAny M A (rule tag) Q E s:=fun _ _ _ _=>h
theorem wpAny_point{Q:Unit->Shared->Prop}(h:Q () s):wpAny M A point Q E s:=fun _ _ _ _=>h
theorem wpAny_release{vs keep:List Value}{Q:Unit->Shared->Prop}(h:Q () s):wpAny M A (release vs keep) Q E s:=fun Γ p _ _=>by rw [Sem.wp_release];exact h
theorem wpAny_bindName{x:Str}{v:Value}{Q:Unit->Shared->Prop}(h:wpAny M A (storeName env x v) Q E s):wpAny M A (bindName env x v) Q E s :=
 fun Γ p hΓ g=>by rw [Sem.wp_bindName];exact h Γ p hΓ g
theorem wpAny_of_eq{t:Sem α}{a:α}{Q:α->Shared->Prop}(h:t=pure a)(hQ:Q a s):wpAny M A t Q E s:=h ▸ wpAny_pure hQ
theorem wpAny_truthy_bool{b:Bool}{Q:Bool->Shared->Prop}(h:Q b s):wpAny M A (truthy (.bool b)) Q E s:=fun _ _ _ _=>h
theorem wpAny_standIf{c:Prop}[Decidable c]{pos:Pos}{k:PUnit->Sem α}{Q:α->Shared->Prop}(h:wpAny M A (k ()) Q E s) :
  wpAny M A (if c then (standAt pos >>= k) else k ()) Q E s:=by
 split
 ·exact wpAny_bind (wpAny_standAt h)
 ·exact h
theorem not_value{v:Value}{Q:Value->Shared->Prop}(h:wpAny M A (truthy v) (fun b s₁=>Q (.bool (!b)) s₁) E s):wpAny M A (unaryOp .Not v) Q E s:=by
 refine wpAny_holding ?_;exact wpAny_bind (wpAny_mono h (fun b s₁ h₁=>wpAny_pure h₁) fun _ _ x=>x)
theorem codeAny_mono{c:Code}{R R':Result->Shared->Prop}(h:codeAny M A c R s)(hR:∀ r s,R r s->R' r s):codeAny M A c R' s :=
 fun Γ p hc hΓ g=>wpCode_mono hR (h Γ p hc hΓ g)
theorem codeAny_of_tree{c:Code}{R:Result->Shared->Prop}
  (h:wpAny M (A.under c) (M.den c) (fun fin s'=>match fin with | .done f=>R (.ok f) s' | .again c'=>c'.quiet=true/\kY c'=false/\codeAny M A c' R s')
   (fun e s'=>R (.error e) s') s):codeAny M A c R s:=fun Γ p hc hΓ g=>by
 rw [wpCode_iff_wp];refine rwp hc ?_;refine Sem.wp_mono M Γ _ (fun fin p' s' h'=>?_) (fun _ _ _ h'=>h') p s (h Γ p (hc ▸ hΓ.in) g);induction fin using PySem.Fin.casesOn with
 | done f=>exact h'
 | again c'=>exact ⟨h'.1,h'.2.2 (Γ.goto c') p' rfl (hΓ.goto c') (g.goto h'.2.1)⟩
theorem codeAny_loop{c:Code}{R:Result->Shared->Prop}(hq:c.quiet=true)(hd:kY c=false)(I:Nat->Shared->Prop)
  (turn:∀ n s,I n s->wpAny M (A.under c) (M.den c)
   (fun fin s'=>match fin with
    | .done f=>R (.ok f) s'
    | .again c'=>(c'=c/\∃ m,m < n/\I m s')\/(c'.quiet=true/\kY c'=false/\codeAny M A c' R s')) (fun e s'=>R (.error e) s') s)
  (n:Nat) (h:I n s):codeAny M A c R s:=by
 induction n using Nat.strongRecOn generalizing s with
 | ind n ih =>
  refine codeAny_of_tree (wpAny_mono (turn n s h) (fun fin s' hf=>?_) fun _ _ h'=>h');induction fin using PySem.Fin.casesOn with
  | done f=>exact hf
  | again c' =>
   rcases hf with ⟨rfl,m,hm,hI⟩ | hf
   ·exact ⟨hq,hd,ih m hm hI⟩
   ·exact hf
theorem wpAny_run{c:Code}{h:Option Value}{Q:Flow->Shared->Prop}(hd:kY c=false)
  (hc:codeAny M (A.mark h) c (fun r s'=>match r with | .ok f=>Q f s' | .error e=>E e s') s) (hnb:h≠some byPass) :
  wpAny M A (run c h) Q E s :=
 fun Γ p hΓ g=>by rw [Sem.wp_run];exact hc _ p rfl (hΓ.enter c h p hnb) (g.enter hd h p)
theorem wpAny_runOwn{c:Code}{Q:Flow->Shared->Prop}(hd:kY c=false)
  (hc:codeAny M A c (fun r s'=>match r with | .ok f=>Q f s' | .error _=>False) s):wpAny M A (runOwn c env) Q E s:=by
 refine wpAny_quiet (wpAny_run hd ?_ fun x=>nomatch x);refine codeAny_mono (R:=fun r s'=>match r with | .ok f=>Q f s' | .error _=>False) ?_ fun r s' h=>?_
 ·obtain ⟨hd',d,fr,gs,u⟩:=A;exact hc
 ·induction r using Except.casesOn <;> exact h
theorem wpAny_call{f:Value}{pos:List Value}{kw:List (Str×Value)}{Q:Value->Shared->Prop}
  (hc:codeAny M A (.call f ⟨pos,kw⟩) (fun r s'=>match r with | .ok (.ret v)=>Q v s' | .ok _=>False | .error e=>E e s') s) :
  wpAny M A (call f pos kw) Q E s:=fun Γ p hΓ g=>by
 show Sem.wp M Γ (runValue (.call f ⟨pos,kw⟩)) _ _ p s
 rw [Sem.wp_runValue];exact hc _ p rfl (hΓ.enter _ none p (by intro x;cases x)) (g.enter rfl none p)
theorem wpAny_Name{x pos}{Q:Value->Shared->Prop}(h:wpAny M A (loadName env x) Q E s)(hd:(x==("__debug__" : Str))=false) :
  wpAny M A (eval (.Name x pos) env) Q E s:=by
 refine rwp (eval_Name env x pos hd) ?_;exact wpAny_bind (wpAny_standAt h)
theorem kA{x:Str}{pos:Pos}{v:Value}{Q:Unit->Shared->Prop}(h:wpAny M A (storeName env x v) Q E s):wpAny M A (assign (.Name x pos) env v) Q E s:=by
 show wpAny M A (do standAt pos;bindName env x v) Q E s
 exact wpAny_bind (wpAny_standAt (wpAny_bindName h))
theorem assignInOrder_nil{xs:List Value}{Q:Unit->Shared->Prop}(h:Q () s):wpAny M A (assignInOrder [] xs) Q E s:=wpAny_pure h
theorem kT{t:Value->Sem Unit}{ts:List (Value->Sem Unit)}{x:Value}{xs:List Value}{Q:Unit->Shared->Prop}
  (h:wpAny M A (t x) (fun _ s₁=>wpAny M A (assignInOrder ts xs) Q E s₁) E s):wpAny M A (assignInOrder (t::ts) (x::xs)) Q E s:=by
 show wpAny M A (do holding xs (t x);assignInOrder ts xs) Q E s
 exact wpAny_bind (wpAny_holding h)
theorem wpAny_execs_nil{Q:Flow->Shared->Prop}(h:Q .next s):wpAny M A (execs [] env) Q E s:=fun _ _ _ _=>h
theorem wpAny_Return_some{e pos}{Q:Flow->Shared->Prop}(h:wpAny M A (eval e env) (fun v=>Q (.ret v)) E s) :
  wpAny M A (exec (.Return (some e) pos) env) Q E s:=by
 rw [exec_Return_some];exact wpAny_bind (wpAny_standAt (wpAny_bind (wpAny_mono h (fun _ _ x=>wpAny_pure x) fun _ _ x=>x)))
theorem wpAny_Return_none{pos}{Q:Flow->Shared->Prop}(h:Q (.ret .none) s):wpAny M A (exec (.Return none pos) env) Q E s :=
 fun _ _ _ _=>h
theorem wpAny_Expr{e pos}{Q:Flow->Shared->Prop}(h:wpAny M A (eval e env) (fun v s'=>match v with | .ref _=>False | _=>Q .next s') E s)
  (hi:interactive env=false) (hs:swapsWith e none pos.line env=pure false) :
  wpAny M A (exec (.Expr e pos) env) Q E s:=by
 refine rwp (exec_Expr env e pos hi hs) ?_;refine wpAny_bind (wpAny_standAt (wpAny_bind (wpAny_mono h (fun v s' h'=>?_) fun _ _ x=>x)));have hv:∀ a,v≠.ref a:=fun a hva=>by subst hva;exact h'
 refine rwp (dropValue_plain hv) ?_;refine wpAny_pure ?_;induction v using PySem.Value.casesOn <;> first | exact h' | exact (hv _ rfl).elim
theorem wpAny_While{test body orelse pos}{Q:Flow->Shared->Prop}
  (h:codeAny M A (.whileLoop test body orelse env) (fun r s'=>match r with | .ok f=>Q f s' | .error _=>False) s) :
  wpAny M A (exec (.While test body orelse pos) env) Q E s:=by
 rw [exec_While];exact wpAny_bind (wpAny_standAt (wpAny_runOwn rfl h))
theorem wpAny_For{target iter body orelse pos}{Q:Flow->Shared->Prop}
  (h:wpAny M A (eval iter env) (fun x s₁=>wpAny M A (pyIter x) (fun it s₂ =>
   codeAny M A (.forLoop target it body orelse env) (fun r s'=>match r with | .ok f=>Q f s' | .error _=>False) s₂) E s₁) E s)
  (hs:∀ x,foldedSetIterable iter env x=pure x) :
  wpAny M A (exec (.For target iter body orelse pos) env) Q E s:=by
 rw [exec_For];refine wpAny_bind (wpAny_standAt (wpAny_bind (wpAny_mono h (fun x s₁ h₁=>?_) fun _ _ x=>x)));refine wpAny_bind (wpAny_of_eq (hs x) (wpAny_bind (wpAny_standAt (wpAny_bind (wpAny_holding ?_)))));exact wpAny_mono h₁ (fun it s₂ h₂=>wpAny_runOwn rfl h₂) fun _ _ x=>x
theorem Subscript_{value slice pos}{Q:Value->Shared->Prop}
  (h:wpAny M A (eval value env) (fun o s₁=>wpAny M A (eval slice env) (fun i s₂=>wpAny M A (subscriptTail value slice o i) Q E s₂) E s₁) E s) :
  wpAny M A (eval (.Subscript value slice pos) env) Q E s:=by
 rw [eval_Subscript];refine wpAny_bind (wpAny_mono h (fun o s₁ h₁=>wpAny_bind (wpAny_holding ?_)) fun _ _ x=>x);exact wpAny_mono h₁ (fun i s₂ h₂=>wpAny_bind (wpAny_standAt h₂)) fun _ _ x=>x
theorem wpAny_layCells(f:Str×NameKind->List (Str×Addr)->Sem (ForInStep (List (Str×Addr))))
  (hf:∀ name kind cells,f (name,kind) cells=if kind==.cell then (do let a <- alloc { cls:=.type "cell",data:=.cell none };pure (.yield ((name,a)::cells))) else pure (.yield cells))
  (names:List (Str×NameKind)) (acc:List (Str×Addr)) (s:Shared) (Q:List (Str×Addr)->Shared->Prop)
  (h:Q (cellsFrom s.heap.objs.size names acc) { s with heap:=pushCells s.heap names }):wpAny M A (forIn names acc f) Q E s :=
 up (PySem.wpAny_layCells f hf names acc s Q h)
end
end Mine
end
section
set_option tactic.hygienic false
namespace Mine
section
variable{prog:Program}{w:World}{A:Around}{E:Value->Shared->Prop}{R:Result->Shared->Prop}{s:Shared}{env:Env}
theorem codeAny_block{stmts:List Stmt}(h:wpAny (model prog w) A (execs stmts env) (fun f s'=>R (.ok f) s') noE s):codeAny (model prog w) A (.block stmts env) R s:=by
 refine codeAny_of_tree ?_;show wpAny _ _ (do return Fin.done (<- (execs stmts env).onRaise (fun x=>do noteFrame x env;theTreesLotGoes x))) _ _ s
 exact wpAny_bind (wpAny_quiet (wpAny_mono h (fun f s' h'=>wpAny_pure h') fun _ _ h'=>h'))
theorem codeAny_whileLoop{test body orelse}(I:Nat->Shared->Prop)
  (turn:∀ n s,I n s ->
   wpAny (model prog w) A (isTrue test env (eval test env)) (fun b s₂ =>
    if b then wpAny (model prog w) A (execs body env) (fun f s₃=>match f with
      | .next | .cont=>∃ m,m < n/\I m s₃
      | .brk=>R (.ok .next) s₃
      | .ret v=>R (.ok (.ret v)) s₃) noE s₂
    else wpAny (model prog w) A (execs orelse env) (fun f s₃=>R (.ok f) s₃) noE s₂) noE s)
  (n:Nat) (h:I n s):codeAny (model prog w) A (.whileLoop test body orelse env) R s:=by
 refine codeAny_loop rfl rfl I (fun n s hI=>?_) n h;show wpAny _ A ((whileTurn test body orelse env).onRaise (fun x=>do noteFrame x env;theTreesLotGoes x)) _ _ s
 refine wpAny_quiet ?_;simp only [whileTurn];refine wpAny_bind (wpAny_mono (turn n s hI) (fun b s₂ h₂=>?_) fun _ _ h'=>h');induction b using Bool.casesOn with
 | false =>
  simp only [Bool.false_eq_true,if_false] at h₂ ⊢;exact wpAny_bind (wpAny_mono h₂ (fun f s₃ h₃=>wpAny_pure h₃) fun _ _ h'=>h')
 | true =>
  simp only [if_true] at h₂ ⊢;refine wpAny_bind (wpAny_mono h₂ (fun f s₃ h₃=>?_) fun _ _ h'=>h');induction f using PySem.Flow.casesOn with
  | next=>exact wpAny_pure (.inl ⟨rfl,h₃⟩)
  | cont=>exact wpAny_pure (.inl ⟨rfl,h₃⟩)
  | brk=>exact wpAny_pure h₃
  | ret v=>exact wpAny_pure h₃
theorem codeAny_forLoop_any{target it body orelse}(I:Nat->Shared->Prop)
  (turn:∀ n s,I n s->wpAny (model prog w) A (pyNext it) (fun r s₁=>match r with
   | none=>wpAny (model prog w) A (execs orelse env) (fun f s₃=>R (.ok f) s₃) noE s₁
   | some v=>wpAny (model prog w) A (letOwnedTupleGo target it v) (fun _ s₁' =>
     wpAny (model prog w) A (assign target env v) (fun _ s₂=>wpAny (model prog w) A (execs body env) (fun f s₃=>match f with
      | .next | .cont=>∃ m,m < n/\I m s₃
      | .brk=>R (.ok .next) s₃
      | .ret v=>R (.ok (.ret v)) s₃) noE s₂) noE s₁') noE s₁) noE s)
  (n:Nat) (h:I n s):codeAny (model prog w) A (.forLoop target it body orelse env) R s:=by
 refine codeAny_loop rfl rfl I (fun n s hI=>?_) n h;show wpAny _ A ((forTurn target it body orelse env).onRaise (fun x=>do noteFrame x env;theTreesLotGoes x)) _ _ s
 refine wpAny_quiet ?_;simp only [forTurn];refine wpAny_bind (wpAny_standAt (wpAny_bind (wpAny_quiet (wpAny_mono (turn n s hI) (fun r s₁ h₁=>?_) fun _ _ h'=>h'))));induction r using Option.casesOn with
 | none=>exact wpAny_pure (.inr ⟨rfl,rfl,codeAny_block h₁⟩)
 | some v =>
  refine wpAny_bind (wpAny_mono h₁ (fun _ s₁' h₁'=>?_) fun _ _ h'=>h');refine wpAny_bind (wpAny_mono h₁' (fun _ s₂ h₂=>wpAny_bind (wpAny_mono h₂ (fun f s₃ h₃=>?_) fun _ _ h'=>h')) fun _ _ h'=>h');induction f using PySem.Flow.casesOn with
  | next=>exact wpAny_pure (.inl ⟨rfl,h₃⟩)
  | cont=>exact wpAny_pure (.inl ⟨rfl,h₃⟩)
  | brk=>exact wpAny_pure h₃
  | ret v=>exact wpAny_pure h₃
theorem kcp_loop{elt target iter:PySem.Expr}{scope:Scope}{pos:Pos}{it acc:Value}(I:Nat->Shared->Prop)
  (turn:∀ n s,I n s->wpAny (model prog w) A (pyNext it) (fun r s₁=>match r with
   | none=>R (.ok .next) s₁
   | some v=>wpAny (model prog w) A (letOwnedTupleGo target it v) (fun _ s₀=>wpAny (model prog w) A (assign target env v) (fun _ s₂ =>
     wpAny (model prog w) A (eval elt env) (fun x s₄ =>
      wpAny (model prog w) A (call (.builtin "list.append") [acc,x]) (fun _ s₅=>∃ m,m < n/\I m s₅) noE s₄) noE s₂) noE s₀) noE s₁) noE s)
  (n:Nat) (h:I n s):codeAny (model prog w) A (.compLoop (.ListComp elt [⟨target,iter,[],0⟩] scope pos) 0 it acc env) R s:=by
 refine codeAny_loop rfl rfl I (fun n s hI=>?_) n h;show wpAny _ A ((compTurn (.ListComp elt [⟨target,iter,[],0⟩] scope pos) 0 it acc env).onRaise (fun x=>do noteFrame x env;theTreesLotGoes x)) _ _ s
 refine wpAny_quiet ?_;rw [compTurn_list1];refine wpAny_bind (wpAny_standAt (wpAny_bind (wpAny_mono (turn n s hI) (fun r s₁ h₁=>?_) fun _ _ h'=>h')));induction r using Option.casesOn with
 | none=>exact wpAny_pure h₁
 | some v =>
  refine wpAny_bind (wpAny_mono h₁ (fun _ s₀ h₀=>?_) fun _ _ h'=>h');refine wpAny_bind (wpAny_mono h₀ (fun _ s₂ h₂=>?_) fun _ _ h'=>h');refine wpAny_bind (wpAny_bind (wpAny_mono h₂ (fun x s₄ h₄=>?_) fun _ _ h'=>h'));exact wpAny_bind (wpAny_mono h₄ (fun _ s₅ h₅=>wpAny_pure (wpAny_pure (.inl ⟨rfl,h₅⟩))) fun _ _ h'=>h')
theorem codeAny_compStart_list{elt target iter ifs rest scope pos it acc}
  (h0:codeAny (model prog w) A (.compLoop (.ListComp elt (⟨target,iter,ifs,0⟩::rest) scope pos) 0 it acc env) R s)
  (h:wpAny (model prog w) A (pyIter it) (fun it' s'=>codeAny (model prog w) A (.compLoop (.ListComp elt (⟨target,iter,ifs,0⟩::rest) scope pos) 0 it' acc env) R s') noE s) :
  codeAny (model prog w) A (.compStart (.ListComp elt (⟨target,iter,ifs,0⟩::rest) scope pos) 0 it acc env) R s:=by
 refine codeAny_of_tree ?_;show wpAny _ _ ((compStart (.ListComp elt (⟨target,iter,ifs,0⟩::rest) scope pos) 0 it acc env).onRaise (fun x=>do noteFrame x env;standAt theWindowsPlace)) _ _ s
 refine wpAny_quiet ?_;refine wpAny_bind (up (wpAny_askSetting ?_));split
 ·first
   | exact wpAny_bind (wpAny_pure (wpAny_pure ⟨rfl,rfl,h0⟩))
   | exact wpAny_pure ⟨rfl,rfl,h0⟩
 ·first
   | exact wpAny_bind (wpAny_rule (wpAny_bind (wpAny_standAt (wpAny_bind (wpAny_mono h (fun it' s' h'=>wpAny_pure ⟨rfl,rfl,h'⟩) fun _ _ x=>x)))))
   | (refine wpAny_bind (wpAny_rule ?_);show wpAny _ _ (standAt iter.pos >>= _) _ _ s;exact wpAny_bind (wpAny_standAt (wpAny_bind (wpAny_mono h (fun it' s' h'=>wpAny_pure ⟨rfl,rfl,h'⟩) fun _ _ x=>x))))
theorem codeAny_func{body:List Stmt}
  (h:wpAny (model prog w) (A.deeper env) (execs body env) (fun f s'=>R (.ok (.ret (match f with | .ret v=>v | _=>.none))) s') noE s):codeAny (model prog w) A (.func body env) R s:=by
 refine codeAny_of_tree ?_;show wpAny _ (A.deeper env) (do point;match <- (execs body env).onRaise (leaving env) with | .ret v=>ret v | _=>ret .none) _ _ s
 refine wpAny_bind (wpAny_point (wpAny_bind (wpAny_quiet (wpAny_mono h (fun f s' h'=>?_) fun _ _ h'=>h'))));induction f using PySem.Flow.casesOn <;> exact wpAny_pure h'
theorem kla_codeExpr{e:Expr}
  (h:wpAny (model prog w) (A.deeper env) (eval e env) (fun v s'=>R (.ok (.ret v)) s') noE s):codeAny (model prog w) A (.expr e env) R s:=by
 refine codeAny_of_tree ?_;show wpAny _ (A.deeper env) (do point;ret (<- (eval e env).onRaise (leaving env))) _ _ s
 exact wpAny_bind (wpAny_point (wpAny_bind (wpAny_quiet (wpAny_mono h (fun v s' h'=>wpAny_pure h') fun _ _ h'=>h'))))
theorem codeAny_call_function{a:Addr}{args:Args}{o:Obj}{fd:FuncData}{body:List Stmt}(hroom:A.depth < recursionLimit)
  (ho:s.heap.get? a=some o)
  (hd':o.data=.func fd) (hco:fd.scope.isCoroutine=false) (hgen:fd.scope.isGenerator=false) (hbody:fd.body=.stmts body) (hcd:s.heap.CodeRec fd.code fd.qualname)
  (h:wpAny (model prog w) A.in1 (bindArgs fd args) (fun binds s₁ =>
   wpAny (model prog w) A.in1 (newFunctionEnv fd.scope fd.globals fd.closure binds (fd.qualname ++ ".<locals>.") (some a) fd.code none fd.builtins)
    (fun env s₂=>s₂.heap.NoLimit/\codeAny (model prog w) A (.func body env) R s₂) noE s₁) noE s) :
  codeAny (model prog w) A (.call (.ref a) args) R s:=by
 refine codeAny_of_tree ?_;show wpAny _ A.in1 (callAny (.ref a) args) _ _ s
 simp only [callAny];refine wpAny_bind (up (wpAny_load ho ?_));apply gk;intro J;obtain ⟨c,oc,vs,tq,hc,hoc,hdc,hq⟩:=hcd;apply J;clear J;simp only [hd',callFunction,hco,hgen,hbody,hc];rw [hc] at h;refine wpAny_bind (m:=field (.ref c) 1) (up (wpAny_field hoc hdc hq ?_));refine wpAny_bind (wpAny_pure ?_);refine wpAny_bind (wpAny_mono h (fun binds s₁ h₁=>wpAny_bind (wpAny_mono h₁ (fun env s₂ h₂=>?_) fun _ _ h'=>h'.elim)) fun _ _ h'=>h'.elim);exact wpAny_bind (up (wpAny_enterFrame h₂.1 hroom (wpAny_pure ⟨rfl,rfl,h₂.2⟩)))
theorem kla_callFunE{a:Addr}{args:Args}{o:Obj}{fd:FuncData}{body:Expr}(hroom:A.depth < recursionLimit)
  (ho:s.heap.get? a=some o)
  (hd':o.data=.func fd) (hco:fd.scope.isCoroutine=false) (hgen:fd.scope.isGenerator=false) (hbody:fd.body=.expr body) (hcd:s.heap.CodeRec fd.code fd.qualname)
  (h:wpAny (model prog w) A.in1 (bindArgs fd args) (fun binds s₁ =>
   wpAny (model prog w) A.in1 (newFunctionEnv fd.scope fd.globals fd.closure binds (fd.qualname ++ ".<locals>.") (some a) fd.code none fd.builtins)
    (fun env s₂=>s₂.heap.NoLimit/\codeAny (model prog w) A (.expr body env) R s₂) noE s₁) noE s) :
  codeAny (model prog w) A (.call (.ref a) args) R s:=by
 refine codeAny_of_tree ?_;show wpAny _ A.in1 (callAny (.ref a) args) _ _ s
 simp only [callAny];refine wpAny_bind (up (wpAny_load ho ?_));apply gk;intro J;obtain ⟨c,oc,vs,tq,hc,hoc,hdc,hq⟩:=hcd;apply J;clear J;simp only [hd',callFunction,hco,hgen,hbody,hc];rw [hc] at h;refine wpAny_bind (m:=field (.ref c) 1) (up (wpAny_field hoc hdc hq ?_));refine wpAny_bind (wpAny_pure ?_);refine wpAny_bind (wpAny_mono h (fun binds s₁ h₁=>wpAny_bind (wpAny_mono h₁ (fun env s₂ h₂=>?_) fun _ _ h'=>h'.elim)) fun _ _ h'=>h'.elim);exact wpAny_bind (up (wpAny_enterFrame h₂.1 hroom (wpAny_pure ⟨rfl,rfl,h₂.2⟩)))
theorem kla_eval{params:Arguments}{body:Expr}{scope:Scope}{pos:Pos}{Q:Value->Shared->Prop}(hdef:defaultsOf params env=([],[]))
  (h:wpAny (model prog w) A (makeFunction "<lambda>" (env.qual ++ "<lambda>") params (.expr body) scope env [] [] [] pos pos.line) Q E s) :
  wpAny (model prog w) A (eval (.Lambda params body scope pos) env) Q E s:=by
 rw [arm_eval_Lambda,hdef];show wpAny _ A (do let dv <- evalAll [];let kdv <- holding dv (evalAllOpt []);makeFunction "<lambda>" (env.qual ++ "<lambda>") params (.expr body) scope env dv kdv [] pos pos.line) Q E s
 exact wpAny_bind (wpAny_pure (wpAny_bind (wpAny_holding (wpAny_pure h))))
noncomputable def compPost(M:Model)(A:Around)(E:Value->Shared->Prop)(use:Option (Value->Sem Unit))(Q:Value->Shared->Prop)(acc:Value)(C:Addr)(r:Result)(s':Shared):Prop :=
 match r,use with
 | .ok _,none=>∃ m,s'.heap.Ns C m/\∀ h',Heap.SameBut C s'.heap h'->Q acc { s' with heap:=h' }
 | .ok _,some u=>wpAny M A (u acc) (fun _ s''=>∃ m,s''.heap.Ns C m/\∀ h',Heap.SameBut C s''.heap h'->Q .none { s'' with heap:=h' }) E s'
 | .error _,_=>False
theorem wpAny_comprehension_free{e:Expr}{scope:Scope}{pos:Pos}{newAcc first:Sem Value}{g:Comprehension}{gs:List Comprehension}{cl:List (Str×Addr)}{use:Option (Value->Sem Unit)}
  {Q:Value->Shared->Prop}
  (hcl:clausesOf e=g::gs) (hs:∀ x,foldedSetIterable g.iter env x=pure x) (hclos:closureFor scope env=pure cl)
  (hkind:scope.kind=.function) (hnames:∀ x∈scope.names,x.2=.local->scope.names.lookup x.1=some .local)
  (h:wpAny (model prog w) A first (fun x s₁=>wpAny (model prog w) A (pyIter x) (fun it s₂=>wpAny (model prog w) A newAcc (fun acc s₃ =>
   wpAny (model prog w) A (newFunctionEnv scope env.globals cl [] env.qual none .none (some env)) (fun cenv s₄ =>
    codeAny (model prog w) A (.compStart e 0 it acc { cenv with scope:=relabel scope env }) (compPost (model prog w) A E use Q acc cenv.locals) s₄) E s₃) E s₂) E s₁) E s) :
  wpAny (model prog w) A (comprehension e scope env pos newAcc false first use) Q E s:=by
 unfold comprehension;refine rwp hclos ?_;refine rwp hcl ?_;refine wpAny_bind (wpAny_mono h (fun x s₁ h₁=>?_) fun _ _ h'=>h');refine wpAny_bind (wpAny_standAt (wpAny_bind (wpAny_of_eq (hs x) (wpAny_bind (wpAny_holding (wpAny_mono h₁ (fun it s₂ h₂=>?_) fun _ _ h'=>h'))))));refine wpAny_standIf (wpAny_bind (wpAny_mono h₂ (fun acc s₃ h₃=>?_) fun _ _ h'=>h'));refine wpAny_bind (wpAny_pure (wpAny_bind (wpAny_mono h₃ (fun cenv s₄ h₄=>?_) fun _ _ h'=>h')));dsimp only;have hv:∀ x∈(scope.names.filter fun x=>(x.2==.local||x.2==.cell)&&x.1 != (".0" : Str)).reverse,x.2=.local ->
   Env.kindOf { cenv with scope:=relabel scope env } x.1=some .local:=fun x hx hl=>lookup_relabel_local (hnames x (List.mem_filter.mp (List.mem_reverse.mp hx)).1 hl)
 have hv':∀ x∈(scope.names.filter fun x=>(x.2==.local||x.2==.cell)&&x.1 != (".0" : Str)).reverse.drop 1++(scope.names.filter fun x=>(x.2==.local||x.2==.cell)&&x.1 != (".0" : Str)).reverse.take 1,
   x.2=.local->Env.kindOf { cenv with scope:=relabel scope env } x.1=some .local:=fun x hx hl=>by
  rcases List.mem_append.mp hx with h1 | h1
  ·exact hv x (List.mem_of_mem_drop h1) hl
  ·exact hv x (List.mem_of_mem_take h1) hl
 refine wpAny_holding (wpAny_bind (wpAny_attempt (wpAny_holding (wpAny_run rfl (codeAny_mono (R:=compPost (model prog w) A E use Q acc cenv.locals) ?_ fun r s' hr=>?_) fun x=>nomatch x))))
 ·apply gk;intro J;obtain ⟨hd',d,fr,gs,u⟩:=A;apply J;clear J;exact h₄
 induction r using Except.casesOn with
 | ok f =>
  induction use using Option.casesOn with
  | none =>
   apply gk;intro J;obtain ⟨m,hn,hr⟩:=hr;apply J;clear J;exact wpAny_bind (wpAny_holding (up (wpAny_comp_letGo (cenv:={ cenv with scope:=relabel scope env }) hkind _ s' m hv hn fun h' m' _ hs'=>wpAny_pure (hr h' hs'))))
  | some u =>
   refine wpAny_bind (wpAny_rule (wpAny_bind (wpAny_holding (wpAny_mono hr (fun _ s'' hr'=>?_) fun _ _ h'=>h'))));apply gk;intro J;obtain ⟨m,hn,hr'⟩:=hr';apply J;clear J;exact wpAny_bind (up (wpAny_comp_letGo (cenv:={ cenv with scope:=relabel scope env }) hkind _ s'' m hv' hn fun h' m' _ hs'=>wpAny_pure (hr' h' hs')))
 | error x=>induction use using Option.casesOn <;> exact hr.elim
theorem wpAny_evalPairs_len{pairs:List (Sem Value×Sem Value)}{Q:List (Value×Value)->Shared->Prop}(h:wpAny (model prog w) A (evalPairs pairs) Q E s) :
  wpAny (model prog w) A (evalPairs pairs) (fun vs s'=>vs.length=pairs.length/\Q vs s') E s :=
 fun Γ p hΓ g=>wp_evalPairs_len _ Γ pairs _ _ p s (h Γ p hΓ g)
theorem pairTrees_nil_walk{pos:Pos}{Q:List (Value×Value)->Shared->Prop}(h:Q [] s):wpAny (model prog w) A (evalPairs (pairTrees [] [] env pos)) Q E s:=up (PySem.pairTrees_nil_walk h)
theorem pairTrees_cons_walk{k v:Expr}{ks:List (Option Expr)}{vs:List Expr}{pos:Pos}{Q:List (Value×Value)->Shared->Prop}
  (h:wpAny (model prog w) A (eval k env) (fun kv s₁=>wpAny (model prog w) A (eval v env) (fun vv s₂=>wpAny (model prog w) A (evalPairs (pairTrees ks vs env pos)) (fun r s₃=>Q ((kv,vv)::r) s₃) E s₂) E s₁) E s) :
  wpAny (model prog w) A (evalPairs (pairTrees (some k::ks) (v::vs) env pos)) Q E s:=by
 show wpAny _ A (evalPairs ((eval k env,_)::pairTrees ks vs env pos)) Q E s
 rw [evalPairs];refine wpAny_bind (wpAny_mono h (fun kv s₁ h₁=>?_) fun _ _ e=>e);refine wpAny_bind (wpAny_holding (wpAny_bind (wpAny_mono h₁ (fun vv s₂ h₂=>wpAny_bind (wpAny_standAt (wpAny_pure ?_))) fun _ _ e=>e)));exact wpAny_bind (wpAny_holding (wpAny_mono h₂ (fun vs s₃ h₃=>wpAny_pure h₃) fun _ _ e=>e))
theorem wpAny_Dict_any{keys:List (Option Expr)}{values:List Expr}{pos:Pos}{Q:Value->Shared->Prop}
  (hall:keys.all (·.isSome)=true) (hl:keys.length=values.length) (h0:keys≠[]) (hlen:keys.length<=15)
  (h:wpAny (model prog w) A (evalPairs (pairTrees keys values env pos)) (fun vs s₁=>wpAny (model prog w) A (storeAll s.heap.objs.size vs) (fun _ s₂=>Q (.ref s.heap.objs.size) s₂) E s₁) E
   {s with heap:=s.heap.push { cls:=.type "dict",data:=.dict #[] } }) :
  wpAny (model prog w) A (eval (.Dict keys values pos) env) Q E s:=by
 have hn:=pairTrees_length keys values env pos hall hl;have hp0:pairTrees keys values env pos≠[]:=by
  intro he;rw [he] at hn;exact h0 (List.length_eq_zero_iff.mp hn.symm)
 rw [arm_eval_Dict];refine rwp (zip_pairTrees keys values env pos hall hl) ?_;refine rwp (dictDisplay_pairs _ hp0 (by rw [hn];lia)) ?_;refine wpAny_bind (wpAny_standAt (wpAny_bind ?_));refine wpAny_bind (up (wpAny_alloc ?_));refine wpAny_bind (wpAny_holding ?_);refine rwp (if_pos (by rw [hn];exact hlen)) ?_;refine wpAny_bind (wpAny_mono h (fun vs s₁ h₁=>?_) fun _ _ e=>e);refine wpAny_holding ?_;exact wpAny_bind (wpAny_mono h₁ (fun _ s₂ h₂=>wpAny_pure (wpAny_pure (wpAny_pure h₂))) fun _ _ e=>e)
end
end Mine
end
section
set_option tactic.hygienic false
open Builtin
namespace Mine
section
variable{prog:Program}{w:World}{A:Around}{E:Value->Shared->Prop}{R:Result->Shared->Prop}
theorem codeAny_call_builtin_at{s:Shared}{id:String}{args:Args}{b:Builtin}(hq:(Code.builtin id args).quiet=true)(hdec:kY (.builtin id args)=false)(hb:entryFor table id=some b)
  (h:PySem.wpAny (model prog w) A.in1 (checkBuiltinCall id args) (fun _ s₁=>wpAny (model prog w) (A.under (.builtin id args)) (b args)
   (fun fin s'=>match fin with | .done f=>R (.ok f) s' | .again c'=>c'.quiet=true/\kY c'=false/\codeAny (model prog w) A c' R s') (fun e s'=>R (.error e) s') s₁) noE s):codeAny (model prog w) A (.call (.builtin id) args) R s:=by
 refine codeAny_of_tree ?_;show wpAny _ A.in1 (do checkBuiltinCall id args;again (.builtin id args)) _ _ s
 refine wpAny_bind (wpAny_mono (up h) (fun _ s₁ h₁=>wpAny_pure (And.intro hq (And.intro hdec (codeAny_of_tree ?_)))) fun _ _ h'=>h'.elim);show wpAny _ _ (match entryFor table id with | some b=>b args | none=>unsupported ((withoutEnding? id "#data").getD id)) _ _ s₁
 refine rwp hb ?_;exact h₁
theorem nd_load{α:Type}{s:Shared}{M:Model}{a:Addr}{p:Option Value}{k:Obj->Sem α}{Q:α->Shared->Prop}{o:Obj}(ho:s.heap.get? a=some o)(h:wpAny M A (k o) Q E s):wpAny M A (.load a p k) Q E s:=fun Γ q hΓ g=>⟨o,ho,h Γ q hΓ g⟩
theorem make_core{C:Addr}{h:Heap}{g:Array GenState}{d:Drawn}{t:Nat}{os:OsState}{rest:List Value}{kw:List (Str×Value)}{init:Value}(Y:Makes (model prog w) h C)(hi:Looks (model prog w) h (typeLookup (.ref C) "__init__") (some init))
  (hb:∀ self,Looks (model prog w) h (bindSpecial init self) (init,[self])) (hne:(some init != some (Value.builtin "object.__init__"))=true\/(rest=[]/\kw=[]))
  (hq:codeAny (model prog w) (A.under (.builtin "type.__call__" ⟨.ref C::rest,kw⟩)) (.call init ⟨.ref (h.objs.size+1)::rest,kw⟩) (InitBack (h.objs.size+1) R) ⟨(h.push emptyDict).push (instObj C h.objs.size),g,d,t,os⟩) :
  codeAny (model prog w) A (.call (.ref C) ⟨rest,kw⟩) R ⟨h,g,d,t,os⟩:=by
 have Y':=Y;apply gk;intro J;obtain ⟨⟨oc,od,cd,sl,hC,e1,e2,e4⟩,made,base,self,top,call,typ⟩:=Y;apply J;clear J;refine codeAny_of_tree ?_;refine nd_load hC ?_;show wpAny _ _ (callAny.viaDunder (.ref C) _) _ _ _
 unfold callAny.viaDunder;refine wpAny_bind (up (call.at ?_));dsimp only;rw [tc_bind];refine wpAny_bind (wpAny_pure (wpAny_bind (wpAny_pure ?_)));refine wpAny_pure (a:=Fin.again (.call (.builtin "type.__call__") ⟨.ref C::rest,kw⟩)) ⟨rfl,rfl,?_⟩;refine codeAny_call_builtin_at (Code.quiet_builtin _ (by decide +kernel)) rfl entry_typeCall (check_slot tc_kind tc_split typ (tc_args _ _ _) ?_);unfold Builtin.«type.__call__»;have hm:Looks (model prog w) h (mroOf (.ref C)) cd.mro:=((Looks.ld (part:=none) hC).andThen .now).andThen .now;dsimp only;refine rwp (if_neg (show ¬ (Value.ref C==Value.type "type")=true from by intro x;cases x)) ?_;refine wpAny_bind (up (hm.at ?_));refine rwp e4 ?_;refine rwp (if_neg (by decide)) ?_;refine wpAny_bind (up (made.at ?_));refine wpAny_bind (wpAny_pure ?_);refine wpAny_bind (wpAny_holding (wpAny_call (upc (new_K Y' hi hne ?_))));have k:∀ b o,h.get? b=some o->((h.push emptyDict).push (instObj C h.objs.size)).get? b=some o:=fun b o e=>Heap.get?_push_of_some _ (Heap.get?_push_of_some _ e);have hx:((h.push emptyDict).push (instObj C h.objs.size)).get? (h.objs.size+1)=some (instObj C h.objs.size):=by heap_get
 have t1:Looks (model prog w) ((h.push emptyDict).push (instObj C h.objs.size)) (typeOf (.ref (h.objs.size+1))) (.ref C):=(Looks.ld hx).andThen .now;have s1:=self.keeps k;have i1:=hi.keeps k;have b1:=(hb (.ref (h.objs.size+1))).keeps k;refine wpAny_bind (wpAny_bind (up (t1.at ?_)));refine up (s1.at ?_);refine rwp (if_neg (by decide)) ?_;refine wpAny_bind (wpAny_holding ?_);refine wpAny_bind (wpAny_bind (up (t1.at ?_)));refine up (i1.at ?_);refine wpAny_holding (wpAny_bind (up (b1.at ?_)));refine wpAny_bind (wpAny_call (codeAny_mono hq fun r s' z=>?_));rcases r with e | (v | _ | _ | _) <;> first | exact z.elim | exact z | skip
 apply gk;intro J;obtain ⟨rfl,z⟩:=z;apply J;clear J;refine wpAny_pure ?_;dsimp only;refine rwp (if_neg (by decide)) ?_;exact wpAny_pure z
end
end Mine
end
section
set_option tactic.hygienic false
open Builtin
namespace Mine
section
variable{prog:Program}{w:World}{A:Around}{E:Value->Shared->Prop}{s:Shared}{r:Nat}
theorem dne{β:Type}{c:Prop}[Decidable c]{x:c->β}{y:¬c->β}{r:β}(hc:¬c)(h:y hc=r):dite c x y=r:=(dif_neg hc).trans h
theorem exported_ok{self:Value}{Q:Bool->Shared->Prop}(hg:A.guards=some [])(h:Q false s):wpAny (model prog w) A (Bytes.exported self) Q E s:=fun Γ p hΓ g=>by
 have key:∀ (f:Code×Pos->Bool),(∀ c p,c.isGuard=false->kY c=false->f (c,p)=false)->((Γ.code,p)::Γ.below).any f=false:=fun f hf=>by
  rw [List.any_eq_false];intro x hx;have hgu:guardsOf ((Γ.code,p)::Γ.below)=[]:=by rw [guardsOf_cons];exact hΓ.2.2.2.1 [] hg
  have h1:x.1.isGuard=false:=by
   cases hc:x.1.isGuard with
   | false=>rfl
   | true =>
    have:x.1∈guardsOf ((Γ.code,p)::Γ.below):=List.mem_filter.mpr ⟨List.mem_map_of_mem hx,hc⟩;rw [hgu] at this;cases this
  have h2:kY x.1=false:=by
   rcases List.mem_cons.mp hx with rfl | hx
   ·exact g.1
   ·exact g.2 x hx
  refine rwp (show x=(x.1,x.2) from rfl) ?_;refine rwp (hf _ _ h1 h2) ?_;exact Bool.false_ne_true
 show (fun b s'=>Q b s') (((Γ.code,p)::Γ.below).any _) s
 rw [key _ fun c p h1 h2=>?_]
 ·exact h
 ·have no:∀ {id:String} {args:Args},c=.builtin id args->guardIds.contains id=true->False:=fun e z=>by
   subst e;have h1:guardIds.contains _=false:=h1;rw [z] at h1;cases h1
  induction c using PySem.Code.casesOn with
  | builtin id args =>
   delta Bytes.exported.match_1
   obtain ⟨pos,kw⟩:=args;refine dne (fun e=>no rfl (e ▸ rfl)) (dne (fun e=>no rfl (e ▸ rfl)) (dne (fun e=>no rfl (e ▸ rfl)) (dne (fun e=>no rfl (e ▸ rfl)) (dne (fun e=>no rfl (e ▸ rfl)) ?_))));induction pos using List.casesOn with
   | nil=>rfl
   | cons v l=>exact (congrArg (_&&·) h2).trans (Bool.and_false _)
  | _=>rfl
theorem checkResize_ok{a:Addr}{b:Array UInt8}{o:Obj}{Q:Unit->Shared->Prop}(hg:A.guards=some [])(ho:s.heap.get? a=some o)(hd:o.data=.bytearray b 0)(h:Q () s) :
  wpAny (model prog w) A (Bytes.checkResize (.ref a)) Q E s:=by
 refine wpAny_bind ?_;refine wpAny_bind (exported_ok hg ?_);refine wpAny_bind (wpAny_bind (up (wpAny_load ho ?_)));refine rwp hd ?_;exact wpAny_pure (wpAny_pure (wpAny_pure h))
theorem wpAny_call_entry{T:String}{name:Str}{id:String}{b:Builtin}{self:Value}{rest:List Value}{Q:Value->Shared->Prop}(h:Slot T name id)(hT:s.TypeIs self T)
  (hb:entryFor table id=some b) (hdec:Bytes.decodersThatHold.contains id=false)
  (hc:wpAny (model prog w) A.in1 (b ⟨self::rest,[]⟩) (fun fin s'=>∃ v,fin=.done (.ret v)/\Q v s') E s) (ha:argsOk id ⟨self::rest,[]⟩) :
  wpAny (model prog w) A (call (.builtin id) (self::rest)) Q E s:=by
 refine wpAny_call (codeAny_call_builtin_at (plainId_quiet h.plain _) hdec hb (h.check _ _ _ _ _ _ _ _ hT ha ?_));rw [Around.under_plainId h.plain];refine wpAny_mono hc (fun fin s' h'=>?_) fun _ _ h'=>h';obtain ⟨v,rfl,hv⟩:=h';exact hv
theorem write_ok{a:Addr}{b:List UInt8}{f:Array UInt8->Array UInt8}{c:List UInt8}{Q:Unit->Shared->Prop}(ho:s.heap.get? a=some (yP b))(hf:f b.toArray=c.toArray)(hz:c.length<=16777216)
  (h:∀ h',Heap.SameBut a s.heap h'->h'.get? a=some (yP c)->Q () { s with heap:=h' }):wpAny (model prog w) A (Bytes.write (.ref a) f) Q E s:=by
 refine wpAny_bind (up (wpAny_load ho ?_));refine wpAny_bind (up (wpAny_update ho ?_));have g:(s.heap.update a (Obj.mapBytearray f)).get? a=some (yP c):=by
  rw [Heap.get?_update_self _ ho rfl];show some (yP (f b.toArray).toList)=_
  rw [hf]
 exact up (wpAny_lookBehind g (by show (if (c.toArray.size > 16777216) then _ else none)=none;rw [if_neg (by simpa using hz)]) (h _ (Heap.SameBut.update ..) g))
theorem slot_ba_append:Slot "bytearray" "append" "bytearray.append" :=
 .of (owner := "bytearray") (n := "append") (by rw [typeLookup_type,builtinLookup_eq_fast];kernel_rfl) (by decide +kernel) (by decide +kernel) (by decide +kernel)
  (by first | exact .inl (by decide +kernel) | exact .inr (by decide +kernel)) (by rw [isSubtype_type];kernel_rfl)
theorem entry_ba_append:entryFor table "bytearray.append" = some Builtin.«bytearray.append»:=by first | exact entryFor_of_tree (by kernel_rfl) | exact entryFor_of_fast (by kernel_rfl)
theorem args_ba_append(a b:Value):argsOk "bytearray.append" ⟨[a,b],[]⟩:=by unfold argsOk;kernel_rfl
theorem bappend_ok{a:Addr}{b:List UInt8}{i:Int}{t:Tok}{Q:Value->Shared->Prop}(hg:A.guards=some [])(ho:s.heap.get? a=some (yP b))(h0:0<=i)(h1:i < 256)(hz:b.length < 1000000)
  (h:∀ h',Heap.SameBut a s.heap h'->h'.get? a=some (yP (b++[UInt8.ofNat i.toNat]))->Q .none { s with heap:=h' }):wpAny (model prog w) A (call (.builtin "bytearray.append") [.ref a,.int i t]) Q E s:=by
 refine wpAny_call_entry slot_ba_append ⟨_,ho,rfl⟩ entry_ba_append (by decide +kernel) ?_ (args_ba_append _ _);show wpAny _ _ (Bytes.byteValue (.int i t) >>= fun c=>Bytes.checkResize (.ref a) >>= fun _=>Bytes.write (.ref a) (·.push c) >>= fun _=>ret .none) _ _ s
 refine wpAny_bind ?_;unfold Bytes.byteValue;refine wpAny_bind (wpAny_pure ?_);refine rwp (if_neg (by simp;simp_all)) ?_;refine wpAny_pure (wpAny_bind (checkResize_ok hg ho rfl (wpAny_bind (write_ok ho (c:=b++[UInt8.ofNat i.toNat]) (by simp) (by refine rwp List.length_append ?_;simp;lia) fun h' hs g=>?_))));exact wpAny_pure ⟨_,rfl,h h' hs g⟩
theorem slot_ba_extend:Slot "bytearray" "extend" "bytearray.extend" :=
 .of (owner := "bytearray") (n := "extend") (by rw [typeLookup_type,builtinLookup_eq_fast];kernel_rfl) (by decide +kernel) (by decide +kernel) (by decide +kernel)
  (by first | exact .inl (by decide +kernel) | exact .inr (by decide +kernel)) (by rw [isSubtype_type];kernel_rfl)
theorem entry_ba_extend:entryFor table "bytearray.extend" = some Builtin.«bytearray.extend»:=by first | exact entryFor_of_tree (by kernel_rfl) | exact entryFor_of_fast (by kernel_rfl)
theorem args_ba_extend(a b:Value):argsOk "bytearray.extend" ⟨[a,b],[]⟩:=by unfold argsOk;kernel_rfl
theorem slot_bytes_buffer:Slot "bytes" "__buffer__" "bytes.__buffer__" :=
 .of (owner := "bytes") (n := "__buffer__") (by rw [typeLookup_type,builtinLookup_eq_fast];kernel_rfl) (by decide +kernel) (by decide +kernel) (by decide +kernel)
  (by first | exact .inl (by decide +kernel) | exact .inr (by decide +kernel)) (by rw [isSubtype_type];kernel_rfl)
theorem takeB{c:Array UInt8}{t:Tok}:Bytes.takeBuffer? "bytearray.extend" (.bytes c t) 0=pure (some (c,none)):=by
 have e:specialOf (.bytes c t) "__buffer__" = pure (some (.builtin "bytes.__buffer__")):=by
  show (pure (Value.type "bytes") >>= fun T=>typeLookup T "__buffer__")=_
  rw [pure_bind];exact slot_bytes_buffer.lookup
 unfold Bytes.takeBuffer?;refine rwp e ?_;rw [pure_bind];have e2:Bytes.slotIsOwn (.bytes c t) "__buffer__" = pure true:=by
  unfold Bytes.slotIsOwn;refine rwp e ?_;rw [pure_bind];show (if (!("bytes.__buffer__".endsWith ("." ++ "__buffer__")))=true then _ else _)=_
  refine rwp (if_neg (by decide +kernel)) ?_;show (pure (Value.type "bytes") >>= fun T=>isSubtype T (.type ("bytes.__buffer__".dropRight ("__buffer__".length+1))))=_
  rw [pure_bind,isSubtype_type];kernel_rfl
 have e4:specialOf (.bytes c t) "__release_buffer__" = pure none:=by
  show (pure (Value.type "bytes") >>= fun T=>typeLookup T "__release_buffer__")=_
  rw [pure_bind,typeLookup_type];refine rwp builtinLookup_eq_fast ?_;kernel_rfl
 have e3:Bytes.ownRelease (.bytes c t)=pure false:=by
  refine rwp e4 ?_;rfl
 have e5:Bytes.buffer? "bytearray.extend" (.bytes c t) (0==Bytes.fullReadOnly)=pure (some c):=by
  unfold Bytes.buffer?;refine rwp e ?_;rw [pure_bind];dsimp only;refine rwp e2 ?_;refine rwp e3 ?_;rfl
 refine rwp e2 ?_;refine rwp e5 ?_;rfl
theorem bextend_ok{a:Addr}{b c:List UInt8}{t:Tok}{Q:Value->Shared->Prop}(hg:A.guards=some [])(ho:s.heap.get? a=some (yP b))(hz:b.length+c.length < 1000000)
  (h:∀ h',Heap.SameBut a s.heap h'->h'.get? a=some (yP (b++c))->Q .none { s with heap:=h' }):wpAny (model prog w) A (call (.builtin "bytearray.extend") [.ref a,.bytes c.toArray t]) Q E s:=by
 refine wpAny_call_entry slot_ba_extend ⟨_,ho,rfl⟩ entry_ba_extend (by decide +kernel) ?_ (args_ba_extend _ _);refine wpAny_bind (wpAny_pure ?_);refine wpAny_bind (up (wpAny_specialOf (T := "bytes") rfl slot_bytes_buffer.lookup ?_));refine rwp (if_pos (by rfl)) ?_;refine wpAny_bind (wpAny_rule ?_);refine wpAny_bind (up (PySem.wpAny_bind (PySem.wpAny_bind (wpAny_load ho (PySem.wpAny_pure (PySem.wpAny_pure ?_))))));refine wpAny_bind ?_;refine wpAny_bind (wpAny_attempt (wpAny_of_eq takeB ?_));refine wpAny_pure ?_;dsimp only;refine rwp (if_pos (by rfl)) ?_;show wpAny _ _ (if (!c.toArray.isEmpty)=true then (Bytes.checkResize (.ref a) >>= fun _=>Bytes.write (.ref a) (·++c.toArray) >>= fun _=>ret .none) else (Bytes.write (.ref a) (·++c.toArray) >>= fun _=>ret .none)) _ _ s
 have fin:wpAny (model prog w) A.in1 (Bytes.write (.ref a) (·++c.toArray) >>= fun _=>ret .none) (fun fin s'=>∃ v,fin=.done (.ret v)/\Q v s') E s :=
  wpAny_bind (write_ok ho (c:=b++c) (by simp) (by refine rwp List.length_append ?_;lia) fun h' hs g=>wpAny_pure ⟨_,rfl,h h' hs g⟩)
 split
 ·exact wpAny_bind (checkResize_ok hg ho rfl fin)
 ·exact fin
end
end Mine
end
section
set_option tactic.hygienic false
open Builtin
namespace Mine
section
variable{prog:Program}{w:World}{K:Frag}{mb:Str->Option Value}{A:Around}{own ρ:List Addr}{L:Addr}{m:Loc}{σ:List O}{s:Shared}{r:Nat}{T:Tabs}
theorem mAppend_ok{i:Nat}{vs:List V}{u:V}{va vu:Value}{Q:V->List O->Prop}(S:Sat w own L ρ m σ s.heap)(hi:σ[i]?=some (.list vs))(hz:vs.length < 1000000)(q:Q .none (σ.set i (.list (vs++[u]))))
  (da:Den w own ρ s.heap (.loc i) va) (du:Den w own ρ s.heap u vu):wpAny (model prog w) A (call (.builtin "list.append") [va,vu]) (PV w own L ρ m s Q) noE s:=by
 apply gk;intro J;obtain ⟨a,rfl,ha⟩:=da;obtain ⟨o,g,its,n,rfl,d⟩:=S.objs i _ a hi ha;apply J;clear J;have hlen:=d.length;simp only [Array.length_toList] at hlen;refine up (append_at g (fun h' hs g'=>?_) (by have:sizeLine=16777216:=rfl;lia));refine ⟨own,ρ,.none,_,Step.upd (t:=s.toks) ha hs,S.upd (X':=.list (vs++[u])) ha hs g' ⟨_,_,rfl,?_⟩,rfl,q⟩;refine rwp Array.toList_push ?_;exact DenL.append d (DenL.cons du rfl)
theorem mBappend_ok{i:Nat}{b:List UInt8}{c:Int}{va vu:Value}{Q:V->List O->Prop}(hA:AOk r A)(S:Sat w own L ρ m σ s.heap)(hi:σ[i]?=some (.barr b))(h0:0<=c)(h1:c < 256)(hz:b.length < 1000000)
  (q:Q .none (σ.set i (.barr (b++[UInt8.ofNat c.toNat])))) (da:Den w own ρ s.heap (.loc i) va) (du:Den w own ρ s.heap (.int c) vu) :
  wpAny (model prog w) A (call (.builtin "bytearray.append") [va,vu]) (PV w own L ρ m s Q) noE s:=by
 obtain ⟨a,rfl,ha⟩:=da;obtain ⟨t,rfl⟩:=du;obtain ⟨o,g,rfl⟩:=S.objs i _ a hi ha;exact bappend_ok hA.guards g h0 h1 hz fun h' hs g'=>⟨own,ρ,.none,_,Step.upd (t:=s.toks) ha hs,S.upd (X':=.barr (b++[UInt8.ofNat c.toNat])) ha hs g' rfl,rfl,q⟩
theorem mBextend_ok{i:Nat}{b c:List UInt8}{va vu:Value}{Q:V->List O->Prop}(hA:AOk r A)(S:Sat w own L ρ m σ s.heap)(hi:σ[i]?=some (.barr b))(hz:b.length+c.length < 1000000)
  (q:Q .none (σ.set i (.barr (b++c)))) (da:Den w own ρ s.heap (.loc i) va) (du:Den w own ρ s.heap (.bytes c) vu) :
  wpAny (model prog w) A (call (.builtin "bytearray.extend") [va,vu]) (PV w own L ρ m s Q) noE s:=by
 obtain ⟨a,rfl,ha⟩:=da;obtain ⟨t,rfl⟩:=du;obtain ⟨o,g,rfl⟩:=S.objs i _ a hi ha;exact bextend_ok hA.guards g hz fun h' hs g'=>⟨own,ρ,.none,_,Step.upd (t:=s.toks) ha hs,S.upd (X':=.barr (b++c)) ha hs g' rfl,rfl,q⟩
theorem IsL_upd{h:Heap}{a:Addr}{its:Array Value}{n:Nat}(g:h.get? a=some (listOf its n))(f:Array Value->Array Value):∃ k,(h.update a (Obj.mapSeq f)).get? a=some (listOf (f its) k):=by
 have q:=PySem.IsL.update g f;split at q
 ·exact ⟨_,q⟩
 ·exact ⟨_,q⟩
theorem mPop_ok{i:Nat}{us:List V}{u:V}{va:Value}{Q:V->List O->Prop}(S:Sat w own L ρ m σ s.heap)(hi:σ[i]?=some (.list (us++[u])))(hz:us.length < 1000000)(q:Q u (σ.set i (.list us)))
  (da:Den w own ρ s.heap (.loc i) va):wpAny (model prog w) A (call (.builtin "list.pop") [va]) (PV w own L ρ m s Q) noE s:=by
 apply gk;intro J;obtain ⟨a,rfl,ha⟩:=da;obtain ⟨o,g,its,n,rfl,d⟩:=S.objs i _ a hi ha;have hlen:=d.length;simp only [Array.length_toList,List.length_append,List.length_cons,List.length_nil] at hlen;obtain ⟨y,hy,dy⟩:=d.get (show (us++[u])[us.length]?=some u by simp);apply J;clear J;have hk:its.size - 1=us.length:=by simp [*]
 have hz':its.size<=sizeLine:=by have:sizeLine=16777216:=rfl;lia
 refine up (call_meets PySem.F.slot_list_pop ⟨_,g,rfl⟩ PySem.F.entry_list_pop (PySem.F.args_list_pop_1 _) (PySem.MeetsSeq.list_pop_last a its n y (by rw [hk];simpa using hy) hz') ⟨g,?_⟩);apply gk;intro J;obtain ⟨k,g'⟩:=IsL_upd g (fun xs=>xs.eraseIdxIfInBounds (its.size - 1));apply J;clear J;have hs:=Heap.SameBut.update (h:=s.heap) (a:=a) (f:=Obj.mapSeq fun xs=>xs.eraseIdxIfInBounds (its.size - 1));have e:(its.eraseIdxIfInBounds (its.size - 1)).toList=its.toList.take us.length:=by
  rw [hk];unfold Array.eraseIdxIfInBounds;rw [dif_pos (by simp [*]),Array.toList_eraseIdx,List.eraseIdx_eq_take_drop_succ,List.drop_eq_nil_of_le (by rw [Array.length_toList];simp [*]),List.append_nil]
 refine ⟨own,ρ,u,_,Step.upd (t:=s.toks) ha hs,S.upd (X':=.list us) ha hs g' ⟨_,_,rfl,?_⟩,dy.mono (Step.upd (t:=s.toks) ha hs |>.ev S.sub) (fun _ _ q=>q),q⟩;rw [e];have:=DenL.take us.length d
 rwa [List.take_left] at this
theorem mExtend_ok{i:Nat}{vs us:List V}{u:V}{va vu:Value}{Q:V->List O->Prop}(S:Sat w own L ρ m σ s.heap)(hi:σ[i]?=some (.list vs))(hl:yU σ u=some us)(hz:vs.length+us.length < 1000000)
  (q:Q .none (σ.set i (.list (vs++us)))) (da:Den w own ρ s.heap (.loc i) va) (du:Den w own ρ s.heap u vu) :
  wpAny (model prog w) A (call (.builtin "list.extend") [va,vu]) (PV w own L ρ m s Q) noE s:=by
 apply gk;intro J;obtain ⟨b,its2,n2,rfl,g2,d2⟩:=qU S du hl;obtain ⟨a,rfl,ha⟩:=da;obtain ⟨o,g,its,n,rfl,d⟩:=S.objs i _ a hi ha;apply J;clear J;have hlen:=d.length;have hlen2:=d2.length;simp only [Array.length_toList] at hlen hlen2;have z:sizeLine=16777216:=rfl;refine up (call_meets PySem.F.slot_list_extend ⟨_,g,rfl⟩ PySem.F.entry_list_extend (PySem.F.args_list_extend_2 _ _)
  (PySem.AutoSeq1.list_extend_list_list_0 a its n b its2 n2 (extend_door (by lia)) (by lia) (by lia)) ⟨g,g2,?_⟩)
 apply gk;intro J;obtain ⟨k,g'⟩:=IsL_upd g (fun x=>x++its2);apply J;clear J;have hs:=Heap.SameBut.update (h:=s.heap) (a:=a) (f:=Obj.mapSeq fun x=>x++its2);refine ⟨own,ρ,.none,_,Step.upd (t:=s.toks) ha hs,S.upd (X':=.list (vs++us)) ha hs g' ⟨_,_,rfl,?_⟩,rfl,q⟩;refine rwp Array.toList_append ?_;exact DenL.append d d2
end
end Mine
end
section
set_option tactic.hygienic false
open Builtin
namespace Mine
section
variable{prog:Program}{w:World}{K:Frag}{mb:Str->Option Value}{A:Around}{own ρ:List Addr}{L:Addr}{m:Loc}{σ:List O}{s:Shared}{r:Nat}{T:Tabs}
theorem plainAttrs_ba:PlainAttrs "bytearray" :=
 ⟨⟨"bytearray.__getattribute__",by rw [typeLookup_type];refine rwp builtinLookup_eq_fast ?_;kernel_rfl,by decide +kernel⟩,by rw [typeLookup_type];refine rwp builtinLookup_eq_fast ?_;kernel_rfl⟩
theorem slot_by_join:Slot "bytes" "join" "bytes.join" :=
 .of (owner := "bytes") (n := "join") (by rw [typeLookup_type,builtinLookup_eq_fast];kernel_rfl) (by decide +kernel) (by decide +kernel) (by decide +kernel)
  (by first | exact .inl (by decide +kernel) | exact .inr (by decide +kernel)) (by rw [isSubtype_type];kernel_rfl)
theorem lm{T:String}{name:Str}{id:String}{a:Addr}{o:Obj}{pl:Sem Bool}{Q:Value×List Value->Shared->Prop}(g:s.heap.get? a=some o)(hc:o.cls=.type T)(hd:o.dict=none)(P:PlainAttrs T)(slot:Slot T name id)(hty:typeOf (.builtin id)=pure (.type "method_descriptor"))
  (h:Q (.builtin id,[.ref a]) s):PySem.wpAny (model prog w) A (getMethod (.ref a) name pl) Q noE s :=
 getMethod_builtin ⟨o,g,hc⟩ P slot hty (fun b e=>by cases e;exact ⟨o,g,hd⟩) h
theorem ite_el{c:Bool}{x y:Option String}{id:String}{P:Prop}(h:(if c=true then x else y)=some id)(h1:c=true->x=some id->P)(h2:y=some id->P):P:=by
 induction c using Bool.casesOn with
 | true=>exact h1 rfl h
 | false=>exact h2 h
theorem mbId_ok{a:V}{va:Value}{x:Str}{id:String}{pl:Sem Bool}(S:Sat w own L ρ m σ s.heap)(h:mbId σ a x=some id)(da:Den w own ρ s.heap a va) :
  PySem.wpAny (model prog w) A (getMethod va x pl) (fun q s'=>q=(.builtin id,[va])/\Grow s s') noE s:=by
 have G:=Grow.refl s;induction a using Mine.V.casesOn with
 | loc i =>
  obtain ⟨a,e,ha⟩:=da;refine rwp e ?_;refine xQ h fun o hi h=>?_;obtain ⟨o',g,d⟩:=S.objs i _ a hi ha;induction o using Mine.O.casesOn with
  | list vs =>
   obtain ⟨its,n,e,_⟩:=d;rw [e] at g;refine ite_el h (fun hx e=>?_) fun h=>ite_el h (fun hx e=>?_) fun h=>ite_el h (fun hx e=>?_) zK
   ·refine rwp (eq_of_beq hx) ?_;refine rwp (Option.some.inj e).symm ?_;exact lm g rfl rfl PySem.F.plainAttrs_list PySem.F.slot_list_append (by kernel_rfl) ⟨rfl,G⟩
   ·refine rwp (eq_of_beq hx) ?_;refine rwp (Option.some.inj e).symm ?_;exact lm g rfl rfl PySem.F.plainAttrs_list PySem.F.slot_list_extend (by kernel_rfl) ⟨rfl,G⟩
   ·refine rwp (eq_of_beq hx) ?_;refine rwp (Option.some.inj e).symm ?_;exact lm g rfl rfl PySem.F.plainAttrs_list PySem.F.slot_list_pop (by kernel_rfl) ⟨rfl,G⟩
  | barr b =>
   rw [show o'=_ from d] at g;refine ite_el h (fun hx e=>?_) fun h=>ite_el h (fun hx e=>?_) zK
   ·refine rwp (eq_of_beq hx) ?_;refine rwp (Option.some.inj e).symm ?_;exact lm g rfl rfl plainAttrs_ba slot_ba_append (by kernel_rfl) ⟨rfl,G⟩
   ·refine rwp (eq_of_beq hx) ?_;refine rwp (Option.some.inj e).symm ?_;exact lm g rfl rfl plainAttrs_ba slot_ba_extend (by kernel_rfl) ⟨rfl,G⟩
  | _=>exact zK h
 | dct ks vs =>
  obtain ⟨a,es,n,e,_,_,g,_⟩:=da;refine ite_el h (fun hx e1=>?_) zK;refine rwp e ?_;refine rwp (eq_of_beq hx) ?_;refine rwp (Option.some.inj e1).symm ?_;exact lm g rfl rfl PySem.F.plainAttrs_dict PySem.F.slot_dict_get (by kernel_rfl) ⟨rfl,G⟩
 | bytes b =>
  obtain ⟨t,e⟩:=da;refine ite_el h (fun hx e1=>?_) zK;refine rwp e ?_;refine rwp (eq_of_beq hx) ?_;refine rwp (Option.some.inj e1).symm ?_;exact getMethod_builtin rfl FB.plainAttrs_bytes slot_by_join (by kernel_rfl) (fun b e=>by cases e) ⟨rfl,G⟩
 | _=>exact zK h
end
end Mine
end
section
set_option tactic.hygienic false
open Builtin
namespace Mine
section
variable{prog:Program}{w:World}{K:Frag}{mb:Str->Option Value}{A:Around}{own ρ:List Addr}{L:Addr}{m:Loc}{σ:List O}{s:Shared}{r:Nat}{T:Tabs}
theorem mGet_ok{ks vs:List V}{k:V}{rr:Option Nat}{va vk:Value}{Q:V->List O->Prop}(hA:AOk r A)(st:Stat K mb own s.heap)(S:Sat w own L ρ m σ s.heap)(hf:yL ks k=some rr)
  (hq:match (generalizing:=false) rr with | some n=>∃ v,vs[n]?=some v/\Q v σ | none=>Q .none σ) (da:Den w own ρ s.heap (.dct ks vs) va) (dk:Den w own ρ s.heap k vk) :
  PySem.wpAny (model prog w) A (call (.builtin "dict.get") [va,vk]) (PV w own L ρ m s Q) noE s:=by
 apply gk;intro J;obtain ⟨l,es,n,rfl,nm,g,D⟩:=dct_at st S da rfl;apply J;clear J;have hT:s.TypeIs (.ref l) "dict" := ⟨_,g,rfl⟩
 refine PySem.wpAny_call_entry PySem.F.slot_dict_get hT PySem.F.entry_dict_get ?_ (PySem.F.args_dict_get_2 _ _);show PySem.wpAny _ _ (dictGet l vk >>= _) _ _ s
 refine PySem.wpAny_bind (dictGet_ok (show A.units+1+3 < cLine by have:=hA.u4;omega) g D hf dk fun tk res h1 h2=>?_);induction rr using Option.casesOn with
 | none =>
  refine rwp (h1 rfl) ?_;refine PySem.wpAny_bind (wpAny_missed_other (by simpa using nm) (PySem.wpAny_pure ⟨_,rfl,own,ρ,.none,σ,(Grow.tok _ _).step _ _ _,S,rfl,hq⟩))
 | some j =>
  apply gk;intro J;obtain ⟨u,v,e1,rfl,du⟩:=h2 j rfl;obtain ⟨v',e2,q⟩:=hq;apply J;clear J;rw [e1] at e2;cases e2;exact PySem.wpAny_pure ⟨_,rfl,own,ρ,u,σ,(Grow.tok _ _).step _ _ _,S,du,q⟩
end
end Mine
end
section
set_option tactic.hygienic false
open Builtin
namespace Mine
section
variable{prog:Program}{w:World}{A:Around}{s:Shared}
theorem args_by_join(a b:Value):argsOk "bytes.join" ⟨[a,b],[]⟩:=by unfold argsOk;kernel_rfl
theorem entry_by_join:entryFor table "bytes.join" = some Builtin.«bytes.join»:=by first | exact entryFor_of_tree (by kernel_rfl) | exact entryFor_of_fast (by kernel_rfl)
theorem takeBy{id:String}{c:Array UInt8}{t:Tok}:Bytes.takeBuffer? id (.bytes c t) 0=pure (some (c,none)):=by
 have e:specialOf (.bytes c t) "__buffer__" = pure (some (.builtin "bytes.__buffer__")):=by
  show (pure (Value.type "bytes") >>= fun T=>typeLookup T "__buffer__")=_
  rw [pure_bind];exact slot_bytes_buffer.lookup
 have e2:Bytes.slotIsOwn (.bytes c t) "__buffer__" = pure true:=by
  unfold Bytes.slotIsOwn;refine rwp e ?_;rw [pure_bind];show (if (!("bytes.__buffer__".endsWith ("." ++ "__buffer__")))=true then _ else _)=_
  refine rwp (if_neg (by decide +kernel)) ?_;show (pure (Value.type "bytes") >>= fun T=>isSubtype T (.type ("bytes.__buffer__".dropRight ("__buffer__".length+1))))=_
  rw [pure_bind,isSubtype_type];kernel_rfl
 have e3:Bytes.ownRelease (.bytes c t)=pure false:=by
  have e4:specialOf (.bytes c t) "__release_buffer__" = pure none:=by
   show (pure (Value.type "bytes") >>= fun T=>typeLookup T "__release_buffer__")=_
   rw [pure_bind,typeLookup_type];refine rwp builtinLookup_eq_fast ?_;kernel_rfl
  unfold Bytes.ownRelease Bytes.slotIsOwn;refine rwp e4 ?_;rfl
 have e5:Bytes.buffer? id (.bytes c t) (0==Bytes.fullReadOnly)=pure (some c):=by
  unfold Bytes.buffer?;refine rwp e ?_;rw [pure_bind];dsimp only;refine rwp e2 ?_;refine rwp e3 ?_;rfl
 unfold Bytes.takeBuffer?;refine rwp e ?_;rw [pure_bind];dsimp only;refine rwp e2 ?_;refine rwp e5 ?_;rfl
theorem takeQ{id:String}{c:Array UInt8}{t:Tok}{E:Value->Shared->Prop}{Q:Option (Array UInt8×Option Value)->Shared->Prop}(h:Q (some (c,none)) s):PySem.wpAny (model prog w) A (Bytes.takeBufferQuiet? id (.bytes c t) 0) Q E s:=by
 unfold Bytes.takeBufferQuiet?;refine rwp takeBy ?_;exact h' h
where h' (h:Q (some (c,none)) s):PySem.wpAny (model prog w) A ((do match <- (pure (some (c,none)):Sem (Option (Array UInt8×Option Value))).attempt with | .ok r=>pure r | .error _=>rule "memoryview.buffer.refusal-replaced";pure none):Sem (Option (Array UInt8×Option Value))) Q E s:=fun _ _ _=>h
theorem rangeInv{β:Type}{n:Nat}{b:β}{f:Nat->β->Sem (ForInStep β)}{E:Value->Shared->Prop}{Q:β->Shared->Prop}(I:Nat->β->Prop)(h0:I 0 b)
  (step:∀ i b,i < n->I i b->PySem.wpAny (model prog w) A (f i b) (fun r s'=>s'=s/\∃ b',r=.yield b'/\I (i+1) b') E s) (hQ:∀ b,I n b->Q b s) :
  PySem.wpAny (model prog w) A (forIn [:n] b f) Q E s:=by
 rw [Std.Legacy.Range.forIn_eq_forIn_range'];have hsz:([:n]:Std.Legacy.Range).size=n:=by simp [Std.Legacy.Range.size]
 refine rwp hsz ?_;have key:∀ (k i:Nat) (b:β),i+k=n->I i b->PySem.wpAny (model prog w) A (forIn (List.range' i k 1) b f) Q E s:=by
  intro k;induction k with
  | zero=>intro i b e hi;refine rwp List.range'_zero ?_;refine rwp List.forIn_nil ?_;exact PySem.wpAny_pure (hQ b ((show i=n by omega) ▸ hi))
  | succ k ih =>
   intro i b e hi;refine rwp List.range'_succ ?_;rw [List.forIn_cons];refine PySem.wpAny_bind (PySem.wpAny_mono (step i b (by lia) hi) (fun r s' zz0=>?_) fun _ _ x=>x);apply gk;intro J;obtain ⟨e1,b',e2,hb⟩:=zz0;apply J;clear J;subst e1 e2;exact ih (i+1) b' (by lia) hb
 exact key n 0 b (by exact Nat.add_comm _ _) h0
theorem fold_join(sp:List UInt8):∀ (bs:List (List UInt8)) (k:Nat) (acc:Array UInt8),0 < k ->
  (List.foldl (fun (out:Array UInt8) (x:Array UInt8×Nat)=>(if x.2 > 0 then out++sp.toArray else out)++x.1) acc ((bs.map List.toArray).zipIdx k)).toList=acc.toList++bs.flatMap fun c=>sp++c:=by
 intro zv;induction zv with
 | nil =>
  intro _ _ _;simp
 | cons b bs ih =>
  intro k acc hk;refine rwp List.map_cons ?_;refine rwp List.zipIdx_cons ?_;refine rwp List.foldl_cons ?_;refine rwp (ih (k+1) _ (by exact Nat.le_add_left _ _)) ?_;refine rwp (if_pos hk) ?_;simp
theorem joined_eq(sp:List UInt8)(bs:List (List UInt8)):Bytes.joined sp.toArray (bs.map List.toArray)=(yT sp bs).toArray:=by
 apply Array.toList_inj.mp;induction bs using List.casesOn with
 | nil=>rfl
 | cons b bs =>
  show (List.foldl _ #[] ((b.toArray,0)::(bs.map List.toArray).zipIdx (0+1))).toList=_
  refine rwp List.foldl_cons ?_;have:=fold_join sp bs 1 (#[]++b.toArray) (by exact Nat.lt_succ_self _);simp only [yT];simpa using this
theorem join_size(sp:List UInt8)(bs:List (List UInt8)):(yT sp bs).length=List.foldl (fun n (b:List UInt8)=>n+b.length) (sp.length*(bs.length - 1)) bs:=by
 have key:∀ (bs:List (List UInt8)) (n:Nat),List.foldl (fun n (b:List UInt8)=>n+b.length) n bs=n+bs.flatten.length:=by
  intro bs;induction bs with
  | nil=>intro n;simp
  | cons b bs ih=>intro n;refine rwp List.foldl_cons ?_;rw [ih];simp;exact Nat.add_assoc _ _ _
 rw [key];induction bs using List.casesOn with
 | nil=>simp [yT]
 | cons b bs =>
  have k2:∀ bs:List (List UInt8),(bs.flatMap fun c=>sp++c).length=sp.length*bs.length+bs.flatten.length:=by
   intro bs;induction bs with
   | nil=>simp
   | cons b bs ih=>refine rwp List.flatMap_cons ?_;refine rwp List.length_append ?_;refine rwp ih ?_;refine rwp List.length_append ?_;refine rwp List.length_cons ?_;refine rwp List.flatten_cons ?_;refine rwp List.length_append ?_;rw [Nat.mul_succ];lia
  simp only [yT,List.length_append,k2,List.length_cons,List.flatten_cons,Nat.add_sub_cancel];lia
noncomputable def byV(b:List UInt8)(t:Tok):Value:=.bytes b.toArray t
theorem letGo_ok{xs keep:List Value}{E:Value->Shared->Prop}{Q:Unit->Shared->Prop}(h:Q () s):PySem.wpAny (model prog w) A (letGo xs keep) Q E s:=by
 induction xs with
 | nil=>exact PySem.wpAny_pure h
 | cons x xs ih=>exact PySem.wpAny_bind (PySem.wpAny_holding (PySem.wpAny_point ih))
theorem joinLetGo_ok{xs:List (Value×Option Value)}{keep:List Value}{E:Value->Shared->Prop}{Q:Unit->Shared->Prop}(hx:∀ x∈xs,x.2=none)(h:Q () s):PySem.wpAny (model prog w) A (Bytes.joinLetGo xs keep) Q E s:=by
 induction xs with
 | nil=>exact PySem.wpAny_pure h
 | cons x xs ih =>
  obtain ⟨x,y⟩:=x;obtain rfl:y=none:=hx _ (.head _);exact PySem.wpAny_bind (letGo_ok (ih fun x q=>hx x (.tail _ q)))
theorem match_one{its:Array Value}{α:Type}(f:Value->α)(g:α)(h:its.size≠1):(match (generalizing:=false) its with | #[x]=>f x | _=>g)=g:=by
 obtain ⟨l⟩:=its;rcases l with _ | ⟨x,_ | ⟨y,r⟩⟩
 ·rfl
 ·exact absurd rfl h
 ·rfl
theorem join_ok{a:Addr}{t:Tok}{sp:List UInt8}{its:Array Value}{n:Nat}{bs:List (List UInt8)}{E:Value->Shared->Prop}{Q:Value->Shared->Prop}(g:s.heap.get? a=some (listOf its n))(d:∀ (i:Nat) (b:List UInt8),bs[i]?=some b->∃ t,its[i]?=some (byV b t))(hn:its.size=bs.length)
  (hz:(yT sp bs).length<=16777216) (h:∀ t tk,Q (byV (yT sp bs) t) { s with toks:=tk }):PySem.wpAny (model prog w) A (call (.builtin "bytes.join") [byV sp t,.ref a]) Q E s:=by
 refine PySem.wpAny_call_entry slot_by_join rfl entry_by_join ?_ (args_by_join _ _);refine PySem.wpAny_bind (PySem.wpAny_pure ?_);dsimp only;rw [if_pos (by decide)];have hseq:∀ {α:Type} {E:Value->Shared->Prop} {k:Option (Array Value)->Sem α} {R:α->Shared->Prop},PySem.wpAny (model prog w) A.in1 (k (some its)) R E s->PySem.wpAny (model prog w) A.in1 (seqItems? (.ref a) >>= k) R E s:=fun h =>
  PySem.wpAny_bind (PySem.wpAny_bind (PySem.wpAny_load g (PySem.wpAny_pure h)))
 have hit:∀ {E:Value->Shared->Prop} {R:Value->Shared->Prop},R (.ref a) s->PySem.wpAny (model prog w) A.in1 (Bytes.joinItems (.ref a)) R E s:=fun h=>by
  refine PySem.wpAny_bind (PySem.wpAny_bind (PySem.wpAny_load g (PySem.wpAny_pure ?_)));exact PySem.wpAny_pure h
 refine PySem.wpAny_bind (hit (hseq ?_));dsimp only;rw [if_pos (by decide)];by_cases h1:its.size=1
 ·obtain ⟨b,rfl⟩:=List.length_eq_one_iff.mp (hn.symm.trans h1);obtain ⟨t',e⟩:=d 0 b rfl;obtain ⟨l⟩:=its;obtain ⟨x,rfl⟩:=List.length_eq_one_iff.mp h1;have:x=byV b t':=by simpa using e
  subst this;refine PySem.wpAny_bind (PySem.wpAny_pure (a:=Value.type "bytes") ?_);rw [if_pos (by decide)];have:=h t' s.toks;simp only [yT,List.flatMap_nil,List.append_nil] at this;exact PySem.wpAny_bind (PySem.wpAny_rule (PySem.wpAny_pure ⟨_,rfl,this⟩))
 ·refine cast (congrArg (fun t=>PySem.wpAny (model prog w) A.in1 t _ _ s) (match_one _ _ h1).symm) ?_;refine PySem.wpAny_bind (rangeInv (fun i st=>st.1.toList=(bs.take i).map List.toArray/\∀ x∈st.2,x.2=none/\x.1.onHeap=false) ⟨rfl,fun _ q=>(nomatch q)⟩ (fun i st hi hst=>?_) fun st hst=>?_)
  ·obtain ⟨p1,p2⟩:=hst;refine hseq ?_;dsimp only;rw [if_neg (by
    rw [Bool.or_eq_true,not_or];refine ⟨by decide,?_⟩;rw [List.any_eq_true];rintro ⟨x,hx,q⟩
    rw [(p2 x hx).2] at q;cases q)]
   have hb:i < bs.length:=hn ▸ hi;obtain ⟨t',e⟩:=d i (bs[i]) (List.getElem?_eq_getElem hb);have e':its.getD i Value.none=byV bs[i] t':=by rw [Array.getD_eq_getD_getElem?,e];rfl
   rw [e'];refine PySem.wpAny_bind (PySem.wpAny_holding (takeQ ?_));refine hseq ?_;dsimp only;rw [if_neg (by simp)];refine PySem.wpAny_pure ⟨rfl,_,rfl,?_,fun x hx=>?_⟩
   ·skip
    rw [Array.toList_push,p1,List.take_add_one,List.getElem?_eq_getElem hb,List.map_append];rfl
   ·rcases List.mem_append.mp hx with hx | hx
    ·exact p2 x hx
    ·rw [List.mem_singleton] at hx;subst hx;exact ⟨rfl,rfl⟩
  ·obtain ⟨p1,p2⟩:=hst;rw [hn,List.take_length] at p1;refine PySem.wpAny_bind (PySem.wpAny_bind (PySem.wpAny_pure (a:=some sp.toArray) (PySem.wpAny_pure ?_)));have hl:st.1.size=bs.length:=by rw [<- Array.length_toList,p1,List.length_map]
   have hf:Array.foldl (fun x1 x2=>x1+Array.size x2) (sp.toArray.size*(st.1.size - 1)) st.1=(yT sp bs).length:=by
    rw [<- Array.foldl_toList,p1,List.foldl_map,join_size,hl];rfl
   rw [hf,if_neg (by unfold Bytes.tooLong;rw [show sizeLine=16777216 from rfl];simpa using hz),p1,joined_eq];refine PySem.wpAny_bind (PySem.wpAny_mkBytes ?_ (by rw [show sizeLine=16777216 from rfl];simpa using hz));exact PySem.wpAny_bind (PySem.wpAny_holding (PySem.wpAny_point (PySem.wpAny_bind (joinLetGo_ok (fun x q=>(p2 x q).1) (PySem.wpAny_pure ⟨_,rfl,h _ _⟩)))))
end
end Mine
end
section
set_option tactic.hygienic false
open Builtin
namespace Mine
section
variable{prog:Program}{w:World}{K:Frag}{mb:Str->Option Value}{A:Around}{own ρ:List Addr}{L:Addr}{m:Loc}{σ:List O}{s:Shared}{r:Nat}{T:Tabs}
theorem push_le{h h':Heap}{o:Obj}(k:∀ b x,h.get? b=some x->h'.get? b=some x)(g:h'.get? h.objs.size=some o) :
  (∀ b x,(h.push o).get? b=some x->h'.get? b=some x)/\(h.push o).objs.size<=h'.objs.size:=by
 refine ⟨fun b x e=>?_,by rw [Heap.size_push];exact Heap.lt_size g⟩;rcases Heap.get?_push_cases e with ⟨rfl,rfl⟩ | e
 ·exact g
 ·exact k _ _ e
theorem newO_at{X:O}{o:Obj}{c:V}{h':Heap}{tk:Tok}{Q:V->List O->Prop}(S:Sat w own L ρ m σ s.heap)(hX:ODen w own ρ s.heap X o)(hf:o.isFreed=false)(q:Q (.loc σ.length) (σ++[X]))
  (k:∀ b x,s.heap.get? b=some x->h'.get? b=some x) (g:h'.get? s.heap.objs.size=some o):PV w own L ρ m s Q (.ref s.heap.objs.size) { s with heap:=h',toks:=tk }:=by
 apply gk;intro J;obtain ⟨k1,k2⟩:=push_le k g;apply J;clear J;have S1:=S.alloc (X:=X) (o:=o) hX hf;refine ⟨_,_,.loc σ.length,_,(Step.alloc (o:=o) (t:=tk)).trans ((Grow.step (s:={ s with heap:=s.heap.push o,toks:=tk }) (s':={ s with heap:=h',toks:=tk }) ⟨rfl,rfl,k2,k1⟩ _ L _)),S1.grow k2 k1,⟨_,rfl,?_⟩,q⟩;refine rwp S.len.symm ?_;simp
theorem newF_at{c:V}{v:Value}{h':Heap}{tk:Tok}{Q:V->List O->Prop}(S:Sat w own L ρ m σ s.heap)(q:Q c σ)(hz:s.heap.objs.size<=h'.objs.size)
  (k:∀ b x,s.heap.get? b=some x->h'.get? b=some x) (d:Den w own ρ h' c v):PV w own L ρ m s Q v { s with heap:=h',toks:=tk }:=by
 have G:Grow s { s with heap:=h',toks:=tk }:=⟨rfl,rfl,hz,k⟩
 exact ⟨own,ρ,c,σ,G.step _ _ _,S.grows G,d,q⟩
theorem fresh_own(S:Sat w own L ρ m σ s.heap):s.heap.objs.size∉own:=fun hq=>Nat.lt_irrefl _ (S.lt _ hq)
theorem newL_at{ow:Bool}{vs:List V}{xs:Array Value}{n:Nat}{h':Heap}{tk:Tok}{Q:V->List O->Prop}(S:Sat w own L ρ m σ s.heap)(q:newList ow vs σ Q)(d:DenL w own ρ s.heap vs xs.toList)
  (k:∀ b x,s.heap.get? b=some x->h'.get? b=some x) (g:h'.get? s.heap.objs.size=some (listOf xs n)):PV w own L ρ m s Q (.ref s.heap.objs.size) { s with heap:=h',toks:=tk }:=by
 induction ow using Bool.casesOn with
 | true=>exact newO_at (c:=.none) S (X:=.list vs) ⟨xs,n,rfl,d⟩ rfl q k g
 | false=>exact newF_at S (c:=.lst vs) q (Nat.le_of_lt (Heap.lt_size g)) k ⟨_,xs,n,rfl,fresh_own S,g,d.grow k⟩
theorem cList_ok{ow:Bool}{vs:List V}{T:String}{its:Array Value}{n:Nat}{a:Addr}{o:Obj}{Q:V->List O->Prop}(S:Sat w own L ρ m σ s.heap)(hT:T = "list" \/ T = "tuple") (q:newList ow vs σ Q) (hz:vs.length<=16777216)
  (g:s.heap.get? a=some o) (hc:o.cls=.type T) (hd:o.data=.seq its n) (d:DenL w own ρ s.heap vs its.toList):PySem.wpAny (model prog w) A (call (.type "list") [.ref a]) (PV w own L ρ m s Q) noE s:=by
 have hl:=d.length;rw [Array.length_toList] at hl;exact call_list_seq a hT g hc hd (fun h' c' k g'=>newL_at (tk:=s.toks) S q d k g') (by rw [show sizeLine=16777216 from rfl];simp_all)
theorem here{Q:V->List O->Prop}{c:V}{v:Value}{tk:Tok}(S:Sat w own L ρ m σ s.heap)(d:Den w own ρ s.heap c v)(q:Q c σ):PV w own L ρ m s Q v { s with toks:=tk } :=
 ⟨own,ρ,c,σ,(Grow.tok s tk).step _ _ _,S.grows (Grow.tok s tk),d,q⟩
theorem slot_ba_len:Slot "bytearray" "__len__" "bytearray.__len__" :=
 .of (owner := "bytearray") (n := "__len__") (by rw [typeLookup_type,builtinLookup_eq_fast];kernel_rfl) (by decide +kernel) (by decide +kernel) (by decide +kernel)
  (by first | exact .inl (by decide +kernel) | exact .inr (by decide +kernel)) (by rw [isSubtype_type];kernel_rfl)
theorem entry_ba_len:entryFor table "bytearray.__len__" = some Builtin.«bytearray.__len__»:=by first | exact entryFor_of_tree (by kernel_rfl) | exact entryFor_of_fast (by kernel_rfl)
theorem args_ba_len(a:Value):argsOk "bytearray.__len__" ⟨[a],[]⟩:=by unfold argsOk;kernel_rfl
theorem len_ba{a:Addr}{b:List UInt8}{E:Value->Shared->Prop}{Q:Value->Shared->Prop}(g:s.heap.get? a=some (yP b))(hz:b.length<=16777216)(h:∀ t tk,Q (.int b.length t) { s with toks:=tk }) :
  PySem.wpAny (model prog w) A (call (.builtin "len") [.ref a]) Q E s:=by
 refine call_len_slot (T := "bytearray") (id := "bytearray.__len__") (n:=b.length) ⟨_,g,rfl⟩ slot_ba_len (fun Q' hq=>?_) (by simp_all) (by lia) (h _ _);refine PySem.wpAny_call_entry slot_ba_len ⟨_,g,rfl⟩ entry_ba_len ?_ (args_ba_len _);refine PySem.wpAny_bind (PySem.wpAny_pure ?_);refine PySem.wpAny_bind (PySem.wpAny_bind (PySem.wpAny_bind (PySem.wpAny_load g (PySem.wpAny_pure (PySem.wpAny_pure ?_)))));refine PySem.wpAny_bind (PySem.wpAny_mkInt (PySem.wpAny_pure ⟨_,rfl,?_⟩));simpa using hq
theorem isi_bytes{b:Array UInt8}{t:Tok}{E:Value->Shared->Prop}{Q:Value->Shared->Prop}(h:Q (.bool true) s):PySem.wpAny (model prog w) A (call (.builtin "isinstance") [.bytes b t,.type "bytes"]) Q E s :=
 call_isinstance (isinstance_true (Tx := "bytes") F.isi_meta_bytes (by rw [isSubtype_type];kernel_rfl)) ⟨rfl,h⟩
theorem isi_bytes_int{b:Array UInt8}{t:Tok}{E:Value->Shared->Prop}{Q:Value->Shared->Prop}(h:Q (.bool false) { s with toks:=s.toks+1 }):PySem.wpAny (model prog w) A (call (.builtin "isinstance") [.bytes b t,.type "int"]) Q E s :=
 call_isinstance (S:=fun _ R s=>R (.ok (.ret (.bool false))) { s with toks:=s.toks+1 }) (fun _ _ _ _ s hs=>by
  obtain ⟨h,g,d,t,os⟩:=s;exact isinstance_outer (isinstance_nested_false_bytes (T := "int") (by decide) F.isi_meta_int (by rw [isSubtype_type];kernel_rfl) hs)) h
theorem dictOf_of{h:Heap}{l:Addr}{es:List DictEntry}{n:Nat}{vs:List V}:∀ {bs:List (List UInt8)},EntD w own ρ h es (bs.map V.bytes) vs ->
  (∀ e∈es,∃ k,(bytesKind prog w).is k e.key=true/\e.hash=(bytesKind prog w).hash k)/\Pairs (bytesKind prog w) es (bs.zip (es.map DictEntry.val)):=by
 induction es generalizing vs with
 | nil =>
  intro bs D;have:=D.len.1;rw [List.length_map] at this;obtain rfl:bs=[]:=List.length_eq_zero_iff.mp this.symm;exact ⟨fun _ q=>(nomatch q),.nil⟩
 | cons e es ih =>
  intro bs D;apply gk;intro J;obtain ⟨D1,D2,D3⟩:=D;apply J;clear J;induction bs using List.casesOn with
  | nil=>cases D1
  | cons b bs =>
   induction vs using List.casesOn with
   | nil=>cases D3
   | cons v vs =>
    apply gk;intro J;obtain ⟨h1,h2⟩:=List.cons.inj D1;obtain ⟨y,ys,q,d1,d2⟩:=D2;obtain ⟨q1,q2⟩:=List.cons.inj q;obtain ⟨z,zs,p,d3,d4⟩:=D3;obtain ⟨p1,p2⟩:=List.cons.inj p;apply J;clear J;subst q2 p2;apply gk;intro J;obtain ⟨k1,k2⟩:=ih (vs:=vs) (bs:=bs) ⟨h2,d2,d4⟩;obtain ⟨t,ht⟩:=d1;apply J;clear J;have hk:(bytesKind prog w).is b e.key=true:=by refine rwp q1 ?_;refine rwp ht ?_;show (_==_)=true;simp
    refine ⟨fun e' he=>?_,.cons hk rfl k2⟩;rcases List.mem_cons.mp he with rfl | he
    ·exact ⟨b,hk,h1⟩
    ·exact k1 e' he
theorem entD_of{h:Heap}{es:List DictEntry}:∀ {bs:List (List UInt8)} {vs:List V} {ws:List Value},(∀ e∈es,∃ k,(bytesKind prog w).is k e.key=true/\e.hash=(bytesKind prog w).hash k) ->
  Pairs (bytesKind prog w) es (bs.zip ws)->ws.length=bs.length->DenL w own ρ h vs ws->EntD w own ρ h es (bs.map V.bytes) vs:=by
 induction es with
 | nil =>
  intro bs vs ws _ P hl d;induction bs using List.casesOn with
  | nil =>
   obtain rfl:ws=[]:=List.length_eq_zero_iff.mp hl;induction vs using List.casesOn with
   | nil=>exact ⟨rfl,rfl,rfl⟩
   | cons v vs=>obtain ⟨_,_,e,_⟩:=d;cases e
  | cons b bs =>
   induction ws using List.casesOn with
   | nil=>cases hl
   | cons x ws=>cases P
 | cons e es ih =>
  intro bs vs ws K P hl d;induction bs using List.casesOn with
  | nil=>cases P
  | cons b bs =>
   induction ws using List.casesOn with
   | nil=>cases hl
   | cons x ws =>
    induction vs using List.casesOn with
    | nil=>cases d
    | cons v vs =>
     rw [List.zip_cons_cons] at P;cases P with
     | cons p1 p2 p3 =>
      apply gk;intro J;obtain ⟨y,ys,q,d1,d2⟩:=d;obtain ⟨q1,q2⟩:=List.cons.inj q;apply J;clear J;subst q1 q2;apply gk;intro J;obtain ⟨k1,k2,k3⟩:=ih (bs:=bs) (vs:=vs) (fun e' he=>K e' (.tail _ he)) p3 (by simpa using hl) d2;obtain ⟨k,h1,h2⟩:=K e (.head _);apply J;clear J;obtain rfl:k=b:=(bytesKind prog w).inj _ _ _ h1 p1;apply gk;intro J;obtain ⟨t,ht⟩:=isBytes_shape (k:=k) h1;apply J;clear J;refine ⟨?_,⟨_,_,rfl,⟨t,ht⟩,k2⟩,⟨_,_,rfl,?_,k3⟩⟩
      ·refine rwp List.map_cons ?_;refine rwp h2 ?_;refine rwp k1 ?_;rfl
      ·refine rwp p2 ?_;exact d1
theorem cDict_ok{vs:List V}{bs:List (List UInt8)}{a:V}{va:Value}{Q:V->List O->Prop}(st:Stat K mb own s.heap)(S:Sat w own L ρ m σ s.heap)(h:qC σ a=some (bs.map V.bytes,vs))(hn:bs.Nodup)(hz:bs.length<=1000)
  (q:Q (.dct (bs.map V.bytes) vs) σ) (da:Den w own ρ s.heap a va):PySem.wpAny (model prog w) A (call (.type "dict") [va]) (PV w own L ρ m s Q) noE s:=by
 apply gk;intro J;obtain ⟨l,es,n,rfl,nm,g,D⟩:=dct_at st S da h;obtain ⟨k1,k2⟩:=dictOf_of (prog:=prog) (l:=l) (n:=n) D;apply J;clear J;have hl:=D.len.1;rw [List.length_map] at hl;have hzip:(bs.zip (es.map DictEntry.val)).map (·.1)=bs:=by
  rw [<- List.unzip_fst,List.unzip_zip_left (by rw [List.length_map];simp_all)]
 refine kt_call_dict (knd:=bytesKind prog w) (more:=bs.zip (es.map DictEntry.val)) nm ⟨_,es.toArray,n,g,⟨rfl,rfl,rfl⟩,rfl,fun e he=>k1 e (by simpa using he),by simpa using k2,by rw [hzip];exact hn⟩ ?_ fun h' hd' hs'=>?_
 ·rw [List.length_zip,show sizeLine=16777216 from rfl];lia
 ·apply gk;intro J;obtain ⟨⟨oc,od,oda,osl⟩,es',ep,g',⟨e1,e2,e3⟩,e4,c1,c2,_⟩:=hd';apply J;clear J;dsimp only at e1 e2 e3 e4;subst e1 e2 e3 e4;have k:∀ b o,s.heap.get? b=some o->h'.get? b=some o:=fun b o e=>(hs'.2 b (Nat.ne_of_lt (Heap.lt_size e))).trans (Heap.get?_push_of_some _ e);have D':=entD_of (own:=own) (ρ:=ρ) (h:=s.heap) (fun e he=>c1 e (by simpa using he)) c2 (by rw [List.length_map];omega) D.2.2;refine newF_at (tk:=s.toks) S q (Nat.le_of_lt (Heap.lt_size g')) k ⟨_,es'.toList,ep,rfl,?_,fresh_own S,by rw [g'],D'.1,D'.2.1.grow k,D'.2.2.grow k⟩;exact Nat.ne_of_gt st.sm.2
theorem byteArr_of(bs:List UInt8):byteArr (bs.map fun c=>((c.toNat:Nat):Int))=bs.toArray:=by
 unfold byteArr;refine rwp List.map_map ?_;congr 1
 rw [List.map_congr_left (g:=fun c=>c)]
 ·exact List.map_id' _
 ·intro c _;simp
theorem den_ints{h:Heap}:∀ {ns:List Int} {l:List Value},DenL w own ρ h (ns.map V.int) l->IntsAre l ns
 | [],_,e=>by refine rwp (show _=[] from e) ?_;exact .nil
 | n::ns,_,⟨_,_,e,⟨t,d⟩,dl⟩=>by refine rwp e ?_;refine rwp d ?_;exact .cons n t (den_ints dl)
theorem cBytesL_ok{bs:List UInt8}{a:V}{va:Value}{Q:V->List O->Prop}(hA:AOk r A)(S:Sat w own L ρ m σ s.heap)(h:yU σ a=some (bs.map fun c=>V.int (c.toNat:Nat)))(hz:bs.length<=16777216)
  (q:Q (.bytes bs) σ) (da:Den w own ρ s.heap a va):PySem.wpAny (model prog w) A (call (.type "bytes") [va]) (PV w own L ρ m s Q) noE s:=by
 obtain ⟨l,its,n,rfl,g,d⟩:=qU S da h;have hl:=d.length;rw [List.length_map] at hl;rw [show (bs.map fun c=>V.int ((c.toNat:Nat):Int))=(bs.map fun c=>((c.toNat:Nat):Int)).map V.int by refine rwp List.map_map ?_;rfl] at d;have hi:=den_ints d;refine wpAny_size (call_bytes_ints (l:=l) (vs:=its.toList) ⟨_,g,rfl,n,rfl⟩ hi (fun n hn=>?_) (by refine rwp (show sizeLine=16777216 from rfl) ?_;simp [*]) hA.handled fun h' t k hk hsz=>?_)
 ·obtain ⟨c,_,rfl⟩:=List.mem_map.mp hn;have:=c.toNat_lt;lia
 ·rw [byteArr_of];exact newF_at S q hsz hk ⟨t,rfl⟩
theorem slot_ba_buffer:Slot "bytearray" "__buffer__" "bytearray.__buffer__" :=
 .of (owner := "bytearray") (n := "__buffer__") (by rw [typeLookup_type,builtinLookup_eq_fast];kernel_rfl) (by decide +kernel) (by decide +kernel) (by decide +kernel)
  (by first | exact .inl (by decide +kernel) | exact .inr (by decide +kernel)) (by rw [isSubtype_type];kernel_rfl)
theorem lk_ba_release:typeLookup (.type "bytearray") "__release_buffer__" = pure (some (.builtin "bytearray.__release_buffer__")):=by rw [typeLookup_type,builtinLookup_eq_fast];kernel_rfl
theorem lk_ba_bytes:typeLookup (.type "bytearray") "__bytes__" = pure none:=by rw [typeLookup_type,builtinLookup_eq_fast];kernel_rfl
theorem lk_ba_index:typeLookup (.type "bytearray") "__index__" = pure none:=by rw [typeLookup_type,builtinLookup_eq_fast];kernel_rfl
theorem sub_ba:isSubtype (.type "bytearray") (.type "bytearray")=pure true:=by rw [isSubtype_type];kernel_rfl
theorem slotOwn_ba{M:Model}{a:Addr}{n id:String}{E:Value->Shared->Prop}{Q:Bool->Shared->Prop}(hT:s.TypeIs (.ref a) "bytearray") (hlk:typeLookup (.type "bytearray") (n:Str)=pure (some (.builtin id))) (h1:id.endsWith ("." ++ n)=true) (h2:id.dropRight (n.length+1) = "bytearray") (h:Q true s) :
  PySem.wpAny M A (Bytes.slotIsOwn (.ref a) n) Q E s:=by
 refine PySem.wpAny_bind (wpAny_specialOf hT hlk ?_);dsimp only;refine rwp h1 ?_;refine rwp h2 ?_;exact wpAny_isInstance hT sub_ba h
theorem buffer_ba{M:Model}{a:Addr}{b:List UInt8}{id:String}{full:Bool}{E:Value->Shared->Prop}{Q:Option (Array UInt8)->Shared->Prop}(g:s.heap.get? a=some (yP b))(h:Q (some b.toArray) s):PySem.wpAny M A (Bytes.buffer? id (.ref a) full) Q E s:=by
 have hT:s.TypeIs (.ref a) "bytearray" := ⟨_,g,rfl⟩
 refine PySem.wpAny_bind (wpAny_specialOf hT slot_ba_buffer.lookup ?_);refine PySem.wpAny_bind (slotOwn_ba hT slot_ba_buffer.lookup (by decide +kernel) (by decide +kernel) ?_);refine PySem.wpAny_bind (wpAny_specialOf hT slot_ba_buffer.lookup ?_);refine PySem.wpAny_bind (PySem.wpAny_bind (slotOwn_ba hT lk_ba_release (by decide +kernel) (by decide +kernel) (PySem.wpAny_pure ?_)));refine PySem.wpAny_bind (PySem.wpAny_bind (PySem.wpAny_bind (PySem.wpAny_load g (PySem.wpAny_pure (PySem.wpAny_pure (PySem.wpAny_pure h))))))
theorem bytesOfBa_new{a:Addr}{b:List UInt8}{E:Value->Shared->Prop}{Q:Value->Shared->Prop}(g:s.heap.get? a=some (yP b))(hz:b.length<=16777216)(h:∀ t tk,Q (byV b t) { s with toks:=tk }) :
  PySem.codeAny (model prog w) A (.call (.builtin "bytes.__new__") ⟨[.type "bytes",.ref a],[]⟩) (wants Q E) s:=by
 have hT:s.TypeIs (.ref a) "bytearray" := ⟨_,g,rfl⟩
 refine PySem.codeAny_of_tree ?_;show PySem.wpAny _ A.in1 (do checkBuiltinCall "bytes.__new__" ⟨[.type "bytes",.ref a],[]⟩;again (.builtin "bytes.__new__" ⟨[.type "bytes",.ref a],[]⟩)) _ _ s
 refine PySem.wpAny_bind (PySem.wpAny_of_eq (F.bm_newCall _) (PySem.wpAny_pure ⟨plainId_quiet F.bm_plain _,codeAny_builtin F.bm_entry ?_⟩));refine rwp (Around.under_plainId F.bm_plain _) ?_;refine PySem.wpAny_bind (PySem.wpAny_of_eq (a:=true) rfl ?_);refine bm_if_false rfl ?_;refine PySem.wpAny_bind (PySem.wpAny_of_eq F.bm_sub ?_);refine bm_if_false rfl ?_;refine PySem.wpAny_bind (PySem.wpAny_of_eq (F.bm_bind _) ?_);refine PySem.wpAny_bind (PySem.wpAny_of_eq (a:=()) rfl ?_);refine PySem.wpAny_bind (PySem.wpAny_of_eq (a:=()) rfl ?_);refine bm_if_false rfl ?_;refine PySem.wpAny_bind (wpAny_specialOf hT lk_ba_bytes ?_);refine PySem.wpAny_bind (PySem.wpAny_bind ?_);refine PySem.wpAny_bind (PySem.wpAny_load g ?_);refine PySem.wpAny_pure (PySem.wpAny_pure ?_);refine bm_if_false rfl ?_;refine PySem.wpAny_bind (wpAny_specialOf hT lk_ba_index ?_);refine bm_if_true rfl ?_;refine PySem.wpAny_bind (buffer_ba g ?_);refine PySem.wpAny_bind (PySem.wpAny_rule ?_);refine PySem.wpAny_bind (PySem.wpAny_mkBytes ?_ (by refine rwp (show sizeLine=16777216 from rfl) ?_;exact hz));exact PySem.wpAny_pure (h _ _)
theorem cBytesB_ok{b:List UInt8}{a:V}{va:Value}{Q:V->List O->Prop}(S:Sat w own L ρ m σ s.heap)(h:barOf σ a=some b)(hz:b.length<=16777216)
  (q:Q (.bytes b) σ) (da:Den w own ρ s.heap a va):PySem.wpAny (model prog w) A (call (.type "bytes") [va]) (PV w own L ρ m s Q) noE s:=by
 apply gk;intro J;obtain ⟨l,rfl,g⟩:=barr_at S da h;apply J;clear J;refine callType_codes (Q₁:=fun obj s₁=>s₁.TypeIs obj "bytes" /\ PV w own L ρ m s Q obj s₁) F.bm_called (F.bm_typeCall _) F.entry_object_init
  (bytesOfBa_new g hz fun t tk=>⟨PySem.W.typeIs_bytes _ _ _,here S (c:=.bytes b) ⟨t,rfl⟩ q⟩) fun obj s₁ h₁=>?_
 exact ⟨h₁.1,F.args_object_init_2 obj _,object_init_meets F.bm_called.init.lookup F.bm_called.made (by decide) prog w A.in1 _ s₁ ⟨h₁.1,rfl,h₁.2⟩⟩
end
end Mine
end
section
set_option tactic.hygienic false
open Builtin
namespace Mine
section
variable{prog:Program}{w:World}{K:Frag}{mb:Str->Option Value}{A:Around}{own ρ:List Addr}{L:Addr}{m:Loc}{σ:List O}{s:Shared}{r:Nat}{T:Tabs}
theorem mro_ba:mroOf (.type "bytearray")=pure [.type "bytearray",.type "object"]:=by rw [mroOf_type];kernel_rfl
theorem lookup_ba_new:typeLookup (.type "bytearray") "__new__" = pure (some (.builtin "bytearray.__new__")):=by rw [typeLookup_type,builtinLookup_eq_fast];kernel_rfl
theorem slot_ba_init:Slot "bytearray" "__init__" "bytearray.__init__" :=
 .of (owner := "bytearray") (n := "__init__") (by rw [typeLookup_type,builtinLookup_eq_fast];kernel_rfl) (by decide +kernel) (by decide +kernel) (by decide +kernel)
  (by first | exact .inl (by decide +kernel) | exact .inr (by decide +kernel)) (by rw [isSubtype_type];kernel_rfl)
theorem called_ba:TypeCalled "bytearray" "bytearray.__new__" "bytearray.__init__" :=
 ⟨by decide +kernel,by decide +kernel,⟨_,_,mro_ba⟩,madeBy_type mro_ba lookup_ba_new (by decide +kernel),by decide +kernel,by rw [isSubtype_type];kernel_rfl,slot_ba_init⟩
theorem typeCall_ba:checkTypeCall "bytearray" ⟨[],[]⟩=pure ():=by kernel_rfl
theorem newCall_ba:checkBuiltinCall "bytearray.__new__" ⟨[.type "bytearray"],[]⟩=pure ():=by kernel_rfl
theorem entry_ba_new:entryFor table "bytearray.__new__" = some Builtin.«list.__new__» :=
 entryFor_alias (id' := "list.__new__") (by kernel_rfl) (by first | rfl | decide +kernel) (by decide +kernel) (by kernel_rfl)
theorem entry_ba_init:entryFor table "bytearray.__init__" = some Builtin.«bytearray.__init__»:=by first | exact entryFor_of_tree (by kernel_rfl) | exact entryFor_of_fast (by kernel_rfl)
theorem args_ba_init(a:Value):argsOk "bytearray.__init__" ⟨[a],[]⟩:=by unfold argsOk;kernel_rfl
set_option maxRecDepth 1000000 in
theorem owner_ba_new:("bytearray.__new__".splitOn ".__new__").headD "" = "bytearray" := by simp +decide [String.splitOn,String.splitOnAux]
theorem code_ba_new{E:Value->Shared->Prop}{Q₁:Value->Shared->Prop}
  (h:Q₁ (.ref s.heap.objs.size) { s with heap:=s.heap.push (yP []) }) :
  PySem.codeAny (model prog w) A (.call (.builtin "bytearray.__new__") ⟨[.type "bytearray"],[]⟩) (wants Q₁ E) s:=by
 refine PySem.codeAny_of_tree ?_;show PySem.wpAny _ A.in1 (do checkBuiltinCall "bytearray.__new__" ⟨[.type "bytearray"],[]⟩;again (.builtin "bytearray.__new__" ⟨[.type "bytearray"],[]⟩)) _ _ s
 refine PySem.wpAny_bind (PySem.wpAny_of_eq newCall_ba (PySem.wpAny_pure ⟨plainId_quiet called_ba.plain _,codeAny_builtin_stack entry_ba_new rfl fun p st=>?_⟩));refine rwp (Around.under_plainId called_ba.plain _) ?_;have hsub:=sub_ba;have hown:=owner_ba_new;obtain ⟨hp,g,d,tk,os⟩:=s;simp only [hown]
 wp_walk
 exact h
theorem bind_ba:Bytes.bindOptional "bytearray.__init__" "bytearray" ["source", "encoding", "errors"] [] []=pure [none,none,none]:=by kernel_rfl
theorem init_ba{a:Addr}{Q:Value->Shared->Prop}(hg:A.guards=some [])(ho:s.heap.get? a=some (yP []))(h:∀ h',Heap.SameBut a s.heap h'->h'.get? a=some (yP [])->Q .none { s with heap:=h' }) :
  wpAny (model prog w) A (call (.builtin "bytearray.__init__") [.ref a]) Q noE s:=by
 have hT:s.TypeIs (.ref a) "bytearray" := ⟨_,ho,rfl⟩
 refine wpAny_call_entry slot_ba_init hT entry_ba_init (by decide +kernel) ?_ (args_ba_init _);refine wpAny_bind (wpAny_bind (up (slotOwn_ba hT lk_ba_release (by decide +kernel) (by decide +kernel) (wpAny_pure ?_))));refine rwp bind_ba ?_;refine wpAny_bind (wpAny_pure ?_);refine wpAny_bind (wpAny_of_eq (a:=()) rfl ?_);refine wpAny_bind (wpAny_of_eq (a:=()) rfl ?_);have ex:∀ {Q:Bool->Shared->Prop},Q false s->wpAny (model prog w) A.in1 (Bytes.exported (.ref a) <||> do return (<- Bytes.exportsOf (.ref a)) > 0) Q noE s:=fun h=>by
  refine wpAny_bind (exported_ok (A:=A.in1) hg ?_);refine wpAny_bind (wpAny_bind (up (wpAny_load ho ?_)));exact wpAny_pure (wpAny_pure h)
 refine wpAny_bind (ex ?_);refine rwp (if_neg (by decide)) ?_;refine wpAny_bind (write_ok ho (c:=[]) rfl (by simp) fun h' hs g=>?_);refine rwp (if_neg (by decide)) ?_;refine rwp (if_neg (by decide)) ?_;exact wpAny_bind (wpAny_pure (wpAny_pure ⟨_,rfl,h h' hs g⟩))
theorem if_f{α:Type}{M:Model}{E:Value->Shared->Prop}{c:Bool}{a b:Sem α}{Q:α->Shared->Prop}(hc:c=false)(h:wpAny M A b Q E s):wpAny M A (if c=true then a else b) Q E s:=by
 subst hc;exact h
theorem codeAny_bi{R:Result->Shared->Prop}{id:String}{args:Args}{b:Builtin}(hb:entryFor table id=some b)
  (h:wpAny (model prog w) (A.under (.builtin id args)) (b args) (fun fin s'=>match fin with | .done f=>R (.ok f) s' | .again c'=>c'.quiet=true/\kY c'=false/\codeAny (model prog w) A c' R s') (fun e s'=>R (.error e) s') s) :
  codeAny (model prog w) A (.builtin id args) R s:=by
 refine codeAny_of_tree ?_;show wpAny _ _ (match entryFor table id with | some b=>b args | none=>unsupported ((withoutEnding? id "#data").getD id)) _ _ s
 refine rwp hb ?_;exact h
theorem cBarr_ok{ow:Bool}{Q:V->List O->Prop}(hA:AOk r A)(S:Sat w own L ρ m σ s.heap)(q:newBarr ow [] σ Q):wpAny (model prog w) A (call (.type "bytearray") []) (PV w own L ρ m s Q) noE s:=by
 have ft:=called_ba;refine wpAny_call (codeAny_of_tree ?_);refine wpAny_pure ⟨Code.quiet_builtin _ (by decide +kernel),by decide +kernel,codeAny_bi F.entry_type_call ?_⟩;refine rwp (Around.under_plain (weight_type_call_type "bytearray" [] []) rfl) ?_;unfold Builtin.«type.__call__»;dsimp only;refine if_f ft.notType (if_f ft.canCreate ?_);refine wpAny_bind (wpAny_of_eq typeCall_ba ?_);refine wpAny_bind (wpAny_of_eq mro_ba ?_);refine if_f rfl ?_;refine wpAny_bind (wpAny_of_eq ft.made ?_);refine wpAny_bind (wpAny_pure ?_);refine wpAny_bind (wpAny_holding (wpAny_call (upc (code_ba_new (s:=s) (E:=noE) (Q₁:=fun v s'=>wpAny _ _ _ _ _ s') ?_))));have g:(s.heap.push (yP [])).get? s.heap.objs.size=some (yP []):=Heap.get?_push_size _ rfl;have hT:({ s with heap:=s.heap.push (yP []) }:Shared).TypeIs (.ref s.heap.objs.size) "bytearray" := ⟨_,g,rfl⟩
 refine wpAny_bind (up (wpAny_isInstance hT sub_ba ?_));refine if_f rfl ?_;refine wpAny_bind (wpAny_holding ?_);refine wpAny_bind (up (wpAny_specialOf hT slot_ba_init.lookup ?_));refine wpAny_holding (wpAny_bind ?_);rw [slot_ba_init.bind];refine wpAny_pure (wpAny_bind (wpAny_mono (init_ba (s:={ s with heap:=s.heap.push (yP []) }) hA.guards g fun h' hs g'=>?_) (fun _ _ x=>x) fun _ _ x=>x.elim));refine wpAny_pure ?_;refine if_f rfl (wpAny_pure ?_);have k:∀ b o,s.heap.get? b=some o->h'.get? b=some o:=fun b o e=>(hs.2 b (Nat.ne_of_lt (Heap.lt_size e))).trans (Heap.get?_push_of_some _ e);induction ow using Bool.casesOn with
 | true=>exact newO_at (c:=.none) (tk:=s.toks) S (X:=.barr []) rfl rfl q k g'
 | false=>exact newF_at (tk:=s.toks) S (c:=.barr []) q (Nat.le_of_lt (Heap.lt_size g')) k ⟨_,rfl,fresh_own S,g'⟩
end
end Mine
end
section
set_option tactic.hygienic false
open Builtin
namespace Mine
section
variable{prog:Program}{w:World}{K:Frag}{mb:Str->Option Value}{A:Around}{own ρ:List Addr}{L:Addr}{m:Loc}{σ:List O}{s:Shared}{r:Nat}{T:Tabs}
theorem isI_ok{a:V}{va:Value}{b:Bool}{E:Value->Shared->Prop}{Q:Value->Shared->Prop}(h:isInt a=some b)(da:Den w own ρ s.heap a va)(hq:∀ tk,Q (.bool b) { s with toks:=tk }):PySem.wpAny (model prog w) A (call (.builtin "isinstance") [va,.type "int"]) Q E s:=by
 induction a using Mine.V.casesOn <;> cases h
 ·refine rwp (show va=.none from da) ?_;exact PySem.IsiPair.NoneType_int (hq _)
 ·obtain ⟨t,rfl⟩:=da;exact PySem.IsiPair.int_int (hq s.toks)
 ·obtain ⟨t,rfl⟩:=da;exact PySem.IsiPair.str_int (hq _)
 ·obtain ⟨t,rfl⟩:=da;exact isi_bytes_int (hq _)
theorem isB_ok{a:V}{va:Value}{b:Bool}{E:Value->Shared->Prop}{Q:Value->Shared->Prop}(h:isByt a=some b)(da:Den w own ρ s.heap a va)(hq:∀ tk,Q (.bool b) { s with toks:=tk }):PySem.wpAny (model prog w) A (call (.builtin "isinstance") [va,.type "bytes"]) Q E s:=by
 induction a using Mine.V.casesOn <;> cases h
 ·refine rwp (show va=.none from da) ?_;exact PySem.IsiPair.NoneType_bytes (hq _)
 ·obtain ⟨t,rfl⟩:=da;exact PySem.IsiPair.int_bytes (hq _)
 ·obtain ⟨t,rfl⟩:=da;exact PySem.IsiPair.str_bytes (hq _)
 ·obtain ⟨t,rfl⟩:=da;exact isi_bytes (hq s.toks)
theorem len_ok{a:V}{va:Value}{n:Nat}{Q:Value->Shared->Prop}(S:Sat w own L ρ m σ s.heap)(h:lenOf σ a=some n)(hz:n<=16777216)(da:Den w own ρ s.heap a va)(hq:∀ t tk,Q (.int (n:Nat) t) { s with toks:=tk }) :
  PySem.wpAny (model prog w) A (call (.builtin "len") [va]) Q noE s:=by
 have lst:∀ {l:Addr} {its:Array Value} {k:Nat} {vs:List V},s.heap.get? l=some (listOf its k)->DenL w own ρ s.heap vs its.toList->vs.length=n->PySem.wpAny (model prog w) A (call (.builtin "len") [.ref l]) Q noE s:=fun {l its k vs} g d e=>by
  have hl:=d.length;rw [Array.length_toList,e] at hl;refine PyProof.Rows.len_list (items:=its) ⟨_,g,rfl,_,rfl⟩ (by lia) ?_;refine rwp hl ?_;exact hq _ _
 induction a using Mine.V.casesOn with
 | bytes b =>
  obtain ⟨t,e⟩:=da;refine rwp e ?_;rw [<- Option.some.inj h] at hz hq;exact len_bytes (Nat.le_trans hz (by decide)) (hq _ _)
 | tup vs =>
  obtain ⟨l,its,k,e,_,g,d⟩:=da;refine rwp e ?_;have hl:its.size=n:=d.length.trans (Option.some.inj h);exact PyProof.Rows.len_tuple (items:=its) ⟨_,g,rfl,_,rfl⟩ (by lia) (hl ▸ hq _ _)
 | lst vs =>
  obtain ⟨l,its,k,e,_,g,d⟩:=da;refine rwp e ?_;exact lst g d (Option.some.inj h)
 | barr b =>
  obtain ⟨l,e,_,g⟩:=da;refine rwp e ?_;rw [<- Option.some.inj h] at hz hq;exact len_ba g hz hq
 | loc i =>
  obtain ⟨l,e,hl⟩:=da;refine rwp e ?_;refine xQ h fun o hi h=>?_;obtain ⟨o',g,d⟩:=S.objs i _ l hi hl;induction o using Mine.O.casesOn with
  | list vs=>exact let ⟨its,k,e,d⟩:=d;lst (e ▸ g) d (Option.some.inj h)
  | barr b =>
   rw [show o'=_ from d] at g;rw [<- Option.some.inj h] at hz hq;exact len_ba g hz hq
  | _=>exact zK h
 | _=>exact zK h
theorem DenL.one{a:V}{l:List Value}{h:Heap}:DenL w own ρ h [a] l->∃ v,l=[v]/\Den w own ρ h a v:=fun ⟨v,_,e,d,z⟩=>⟨v,by rw [e,z],d⟩
theorem DenL.two{a b:V}{l:List Value}{h:Heap}:DenL w own ρ h [a,b] l->∃ v u,l=[v,u]/\Den w own ρ h a v/\Den w own ρ h b u:=fun ⟨v,_,e,d,u,_,e',d',z⟩=>⟨v,u,by rw [e,e',z],d,d'⟩
theorem bi_ok{id:String}{args:List V}{vargs:List Value}{Q:V->List O->Prop}(hA:AOk r A)(S:Sat w own L ρ m σ s.heap)(hh:zB ((biQ σ Q).lookup id) fun g=>g args)(ds:DenL w own ρ s.heap args vargs) :
  wpAny (model prog w) A (call (.builtin id) vargs) (PV w own L ρ m s Q) noE s:=by
 refine (fun ⟨g,h,k⟩=>k h:(∃ g:List V->Prop,g args/\(g args->_))->_) (tab_of (R:=fun id g=>g args->wpAny (model prog w) A (call (.builtin id) vargs) (PV w own L ρ m s Q) noE s) hh ⟨fun z=>?_,fun z=>?_,fun z=>?_,fun z=>?_,fun z=>?_,trivial⟩)
 ·apply gk;intro J;obtain ⟨a,rfl,h⟩:=yC z;obtain ⟨n,h1,h⟩:=zA h;obtain ⟨h2,q⟩:=zU h;obtain ⟨v,rfl,d⟩:=ds.one;apply J;clear J;exact up (len_ok S h1 h2 d fun t tk=>here S (c:=.int (n:Nat)) ⟨t,rfl⟩ q)
 ·apply gk;intro J;obtain ⟨a,rfl,h⟩:=yC z;obtain ⟨i,e,h⟩:=zA h;apply J;clear J;cases zJ e;apply gk;intro J;obtain ⟨v,rfl,t,rfl⟩:=ds.one;apply J;clear J;refine up (call_abs_int fun u tk=>here S (c:=.int (i.natAbs:Nat)) ⟨u,?_⟩ h);congr 1
  split <;> grind only
 ·apply gk;intro J;obtain ⟨a,b,rfl,h⟩:=xI z;obtain ⟨i,e,h⟩:=zA h;obtain ⟨j,e',h⟩:=zA h;apply J;clear J;cases zJ e;cases zJ e';apply gk;intro J;obtain ⟨v,u,rfl,⟨t,rfl⟩,⟨t',rfl⟩⟩:=ds.two;apply J;clear J;refine up (wpAny_size (min_two_ints hA.handled fun h' tk k hz=>newF_at S (c:=.int (min i j)) h hz k ?_));by_cases hji:j < i
  ·rw [if_pos hji];exact ⟨t',by rw [show min i j=j by lia]⟩
  ·rw [if_neg hji];exact ⟨t,by rw [show min i j=i by lia]⟩
 ·apply gk;intro J;obtain ⟨a,rfl,h⟩:=yC z;obtain ⟨x,e,h2⟩:=zA h;apply J;clear J;cases asStr_of e;apply gk;intro J;obtain ⟨c,e',q⟩:=zA h2;apply J;clear J;cases oneSign_spec e';apply gk;intro J;obtain ⟨v,rfl,t,rfl⟩:=ds.one;apply J;clear J;exact up (PySem.P.ord_of_char (here S (c:=.int (c:Nat)) ⟨_,rfl⟩ q))
 ·apply gk;intro J;obtain ⟨a,b,rfl,h⟩:=xI z;obtain ⟨t,e,h2⟩:=zA h;apply J;clear J;cases asTy_of e;apply gk;intro J;obtain ⟨r,h1,q⟩:=zA h2;obtain ⟨v,u,rfl,d,d'⟩:=ds.two;apply J;clear J;rw [show u=.type t from d'];unfold isOf at h1;cases ht:t == "int" with
  | true =>
   rw [ht] at h1;rw [eq_of_beq ht];exact up (isI_ok h1 d fun tk=>here S (c:=.bool r) rfl q)
  | false =>
   rw [ht] at h1;cases ht':t == "bytes" with
   | true =>
    rw [ht'] at h1;rw [eq_of_beq ht'];exact up (isB_ok h1 d fun tk=>here S (c:=.bool r) rfl q)
   | false=>rw [ht'] at h1;exact zK h1
theorem ty_ok{ow:Bool}{id:String}{args:List V}{vargs:List Value}{Q:V->List O->Prop}(hA:AOk r A)(st:Stat K mb own s.heap)(S:Sat w own L ρ m σ s.heap)(hh:zB ((tyQ ow σ Q).lookup id) fun g=>g args)(ds:DenL w own ρ s.heap args vargs) :
  wpAny (model prog w) A (call (.type id) vargs) (PV w own L ρ m s Q) noE s:=by
 refine (fun ⟨g,h,k⟩=>k h:(∃ g:List V->Prop,g args/\(g args->_))->_) (tab_of (R:=fun id g=>g args->wpAny (model prog w) A (call (.type id) vargs) (PV w own L ρ m s Q) noE s) hh ⟨fun z=>?_,fun z=>?_,fun z=>?_,fun z=>?_,fun z=>?_,fun z=>?_,fun z=>?_,trivial⟩)
 ·apply gk;intro J;obtain ⟨a,rfl,h⟩:=yC z;obtain ⟨v,rfl,d⟩:=ds.one;apply J;clear J;cases hb:barOf σ a with
  | some b =>
   rw [hb] at h;apply gk;intro J;obtain ⟨h1,q⟩:=zU h;apply J;clear J;exact up (cBytesB_ok S hb h1 q d)
  | none =>
   rw [hb] at h;apply gk;intro J;obtain ⟨l,e1,h⟩:=zA h;obtain ⟨bs,e2,h⟩:=zA h;obtain ⟨h2,q⟩:=zU h;apply J;clear J;exact up (cBytesL_ok hA S (by rw [e1,intsOf_spec e2]) h2 q d)
 ·apply gk;intro J;obtain ⟨rfl,h⟩:=noA_of z;apply J;clear J;rw [show vargs=[] from ds];exact cBarr_ok hA S h
 ·apply gk;intro J;obtain ⟨a,rfl,h⟩:=yC z;obtain ⟨v,rfl,d⟩:=ds.one;apply J;clear J;cases ht:jO a with
  | some vs =>
   rw [ht] at h;cases xG ht;apply gk;intro J;obtain ⟨h1,q⟩:=zU h;obtain ⟨l,its,n,rfl,_,g,d⟩:=d;apply J;clear J;exact up (cList_ok S (.inr rfl) q h1 g rfl rfl d)
  | none =>
   rw [ht] at h;apply gk;intro J;obtain ⟨vs,h1,h⟩:=zA h;obtain ⟨h2,q⟩:=zU h;obtain ⟨l,its,n,rfl,g,dl⟩:=qU S d h1;apply J;clear J;exact up (cList_ok S (.inl rfl) q h2 g rfl rfl dl)
 ·apply gk;intro J;obtain ⟨a,rfl,h⟩:=yC z;obtain ⟨vs,e,h⟩:=zA h;apply J;clear J;cases xG e;apply gk;intro J;obtain ⟨v,rfl,d⟩:=ds.one;have d0:=d;obtain ⟨l,its,n,rfl,_,g,_⟩:=d;apply J;clear J;exact up (call_tuple_same (items:=its) ⟨_,g,rfl,_,rfl⟩ (here (tk:=s.toks) S d0 h))
 ·apply gk;intro J;obtain ⟨a,rfl,h⟩:=yC z;obtain ⟨dd,e,h⟩:=zA h;obtain ⟨bs,e2,q⟩:=zA h;obtain ⟨k1,k2,k3⟩:=keysBy_spec e2;obtain ⟨v,rfl,d⟩:=ds.one;apply J;clear J;exact up (cDict_ok st S (vs:=dd.2) (by rw [e,<- k1]) k2 k3 (by rw [<- k1];exact q) d)
 ·apply gk;intro J;obtain ⟨a,rfl,h⟩:=yC z;obtain ⟨i,e,h⟩:=zA h;apply J;clear J;cases zJ e;apply gk;intro J;obtain ⟨⟨h0,h1⟩,q⟩:=zU h;obtain ⟨v,rfl,t,rfl⟩:=ds.one;apply J;clear J;refine up (PySem.P.str_of_int ?_ (here S (c:=.str _) ⟨_,rfl⟩ q));have:i.natAbs < 2 ^ 1920:=Nat.lt_trans (m:=10 ^ 40) (by lia) (by decide);by_cases hi:i.natAbs=0
  ·rw [hi];decide
  ·exact (Nat.log2_lt hi).mpr this
 ·apply gk;intro J;obtain ⟨a,rfl,h⟩:=yC z;obtain ⟨n,e,h⟩:=zA h;apply J;clear J;cases zJ e;apply gk;intro J;obtain ⟨⟨h0,h1⟩,q⟩:=zU h;obtain ⟨v,rfl,t,rfl⟩:=ds.one;apply J;clear J;refine up (call_range_1 ?_);refine newF_at (tk:=s.toks+1+1) S (c:=.rng n) q (by rw [Heap.size_push];exact Nat.le_succ _) (fun b o e=>Heap.get?_push_of_some _ e) ⟨_,_,_,_,_,rfl,fresh_own S,Heap.get?_push_size _ rfl,rfl,h0,h1⟩
theorem callB_ok{ow:Bool}{g:V}{args:List V}{vg:Value}{vargs:List Value}{Q:V->List O->Prop}(hA:AOk r A)(st:Stat K mb own s.heap)(S:Sat w own L ρ m σ s.heap)(h:callQ ow g args σ Q)(da:Den w own ρ s.heap g vg)(ds:DenL w own ρ s.heap args vargs) :
  wpAny (model prog w) A (call vg vargs) (PV w own L ρ m s Q) noE s:=by
 induction g using Mine.V.casesOn with
 | bi id =>
  refine rwp (show vg=.builtin id from da) ?_;exact bi_ok hA S h ds
 | ty id =>
  refine rwp (show vg=.type id from da) ?_;exact ty_ok hA st S h ds
 | _=>exact h.elim
theorem methB_ok{id:String}{a:V}{args:List V}{va:Value}{vargs:List Value}{Q:V->List O->Prop}(hA:AOk r A)(st:Stat K mb own s.heap)(S:Sat w own L ρ m σ s.heap)(hh:methQ id a args σ Q)(da:Den w own ρ s.heap a va)(ds:DenL w own ρ s.heap args vargs) :
  wpAny (model prog w) A (call (.builtin id) (va::vargs)) (PV w own L ρ m s Q) noE s:=by
 refine (fun ⟨g,h,k⟩=>k h:(∃ g:List V->Prop,g args/\(g args->_))->_) (tab_of (R:=fun id g=>g args->wpAny (model prog w) A (call (.builtin id) (va::vargs)) (PV w own L ρ m s Q) noE s) hh ⟨fun z=>?_,fun z=>?_,fun z=>?_,fun z=>?_,fun z=>?_,fun z=>?_,fun z=>?_,trivial⟩)
 ·apply gk;intro J;obtain ⟨i,e,h⟩:=zA z;apply J;clear J;cases yV e;apply gk;intro J;obtain ⟨u,rfl,h⟩:=yC h;obtain ⟨vs,e,h⟩:=zA h;obtain ⟨h1,q⟩:=zU h;obtain ⟨v,rfl,d⟩:=ds.one;apply J;clear J;exact mAppend_ok S (loc_list e) h1 q da d
 ·apply gk;intro J;obtain ⟨i,e,h⟩:=zA z;apply J;clear J;cases yV e;apply gk;intro J;obtain ⟨u,rfl,h⟩:=yC h;obtain ⟨vs,e,h⟩:=zA h;obtain ⟨us,e2,h⟩:=zA h;obtain ⟨h0,h⟩:=jM h;obtain ⟨h1,q⟩:=zU h;obtain ⟨v,rfl,d⟩:=ds.one;apply J;clear J;exact mExtend_ok S (loc_list e) e2 h1 q da d
 ·apply gk;intro J;obtain ⟨i,e,h⟩:=zA z;apply J;clear J;cases yV e;apply gk;intro J;obtain ⟨rfl,h⟩:=noA_of h;obtain ⟨vs,e,h⟩:=zA h;obtain ⟨p,e2,h⟩:=zA h;obtain ⟨h1,q⟩:=zU h;apply J;clear J;rw [show vargs=[] from ds];exact mPop_ok S (by rw [loc_list e,popOf_spec e2]) h1 q da
 ·apply gk;intro J;obtain ⟨i,e,h⟩:=zA z;apply J;clear J;cases yV e;apply gk;intro J;obtain ⟨u,rfl,h⟩:=yC h;obtain ⟨c,e,h⟩:=zA h;apply J;clear J;cases zJ e;apply gk;intro J;obtain ⟨b,e,h⟩:=zA h;obtain ⟨⟨h1,h2,h3⟩,q⟩:=zU h;obtain ⟨v,rfl,d⟩:=ds.one;apply J;clear J;exact mBappend_ok hA S (loc_barr e) h1 h2 h3 q da d
 ·apply gk;intro J;obtain ⟨i,e,h⟩:=zA z;apply J;clear J;cases yV e;apply gk;intro J;obtain ⟨u,rfl,h⟩:=yC h;obtain ⟨c,e,h⟩:=zA h;apply J;clear J;cases zZ e;apply gk;intro J;obtain ⟨b,e,h⟩:=zA h;obtain ⟨h1,q⟩:=zU h;obtain ⟨v,rfl,d⟩:=ds.one;apply J;clear J;exact mBextend_ok hA S (loc_barr e) h1 q da d
 ·apply gk;intro J;obtain ⟨dd,e,h⟩:=zA z;apply J;clear J;cases asDct_of e;apply gk;intro J;obtain ⟨k,rfl,h⟩:=yC h;obtain ⟨rr,h1,h⟩:=zA h;obtain ⟨v,rfl,d⟩:=ds.one;apply J;clear J;refine up (mGet_ok hA st S h1 ?_ da d);induction rr using Option.casesOn with
  | none=>exact h
  | some n=>exact zA h
 ·apply gk;intro J;obtain ⟨sp,e,h⟩:=zA z;apply J;clear J;cases zZ e;apply gk;intro J;obtain ⟨u,rfl,h⟩:=yC h;obtain ⟨l0,e1,h⟩:=zA h;obtain ⟨bs,e2,h⟩:=zA h;obtain ⟨h2,q⟩:=zU h;have h1:yU σ u=some (bs.map V.bytes):=by rw [e1,byOf_spec e2]
  obtain ⟨v,rfl,d⟩:=ds.one;obtain ⟨t,rfl⟩:=da;obtain ⟨l,its,n,rfl,g,dl⟩:=qU S d h1;apply J;clear J;have hl:=dl.length;rw [Array.length_toList,List.length_map] at hl;refine up (join_ok g (fun i b hb=>?_) hl h2 fun t tk=>here S (c:=.bytes _) ⟨t,rfl⟩ q);apply gk;intro J;obtain ⟨y,hy,t',rfl⟩:=dl.get (i:=i) (x:=.bytes b) (by rw [List.getElem?_map,hb];rfl);apply J;clear J;exact ⟨t',by rw [<- Array.getElem?_toList];exact hy⟩
theorem truth_ok{a:V}{va:Value}{Q:Bool->Prop}{R:Bool->Shared->Prop}(h:vF a Q)(da:Den w own ρ s.heap a va)(hR:∀ b,Q b->R b s):PySem.wpAny (model prog w) A (truthy va) R noE s:=by
 induction a using Mine.V.casesOn <;> first | exact h.elim | skip
 refine rwp (show va=.bool _ from da) ?_;exact PySem.wpAny_truthy_bool (hR _ h)
end
end Mine
end
section
namespace Mine
noncomputable def PR(w:World)(own:List Addr)(L:Addr)(ρ:List Addr)(m:Loc)(s:Shared)(Q:V->List O->Prop):Result->Shared->Prop :=
 fun r s'=>∃ v,r=.ok (.ret v)/\PV w own L ρ m s Q v s'
noncomputable def PK(w:World)(own:List Addr)(L:Addr)(ρ:List Addr)(m:Loc)(s:Shared)(Q:V->List O->Prop):Result->Shared->Prop :=
 fun r s'=>PR w own L ρ m s Q r s'/\∀ o,s.heap.get? L=some o->s'.heap.get? L=some o
noncomputable def GlobOk(K:Frag)(mb:Str->Option Value)(w:World)(x:Str)(v:V):Prop :=
 (∃ u,nsIn K mainGlobals x=some (some u)/\∀ own ρ h,Den w own ρ h v u)\/(nsIn K mainGlobals x=some none/\∃ u,mb x=some u/\∀ own ρ h,Den w own ρ h v u)
inductive ArgsTo(w:World)(own ρ:List Addr)(s:Shared)(fi:Fi)(fd:FuncData)(vargs:List Value):Prop
 | mk (dv:List Value) (d:DenL w own ρ s.heap (fi.dfl.drop (fi.dfl.length - (fi.params.length - vargs.length))) dv) (b:BindsTo s fd ⟨vargs,[]⟩ (fi.params.zip (vargs++dv)))
inductive FnAt(K:Frag)(w:World)(a:Addr)(fi:Fi):Prop
 | mk (name:Str) (params:Arguments) (dV kV doc pm cdv ct:Value) (an:Option Addr) (oc:Value) (od:Option Addr) (osl:Array (Option Value)) (h:K.lookup a=some ⟨oc,od,.func (fnOf name fi.qual params fi.body fi.scope dV kV doc pm an cdv ct),osl⟩) (hc:codeIn K cdv fi.qual=true)
  (hb:∀ (own ρ:List Addr) (s:Shared) (vargs:List Value),K.In s.heap->(∀ a o,K.lookup a=some o->a∉own)->vargs.length<=fi.params.length->fi.params.length<=vargs.length+fi.dfl.length->ArgsTo w own ρ s fi (fnOf name fi.qual params fi.body fi.scope dV kV doc pm an cdv ct) vargs)
structure FnOk(K:Frag)(w:World)(a:Addr)(fi:Fi):Prop where
 ex:FnAt K w a fi
 kind:fi.scope.kind=.function
 gen:fi.scope.isGenerator=false
 co:fi.scope.isCoroutine=false
noncomputable def SpecOk(prog:Program)(w:World)(K:Frag)(mb:Str->Option Value)(R:Nat)(f:Addr)(sp:xM):Prop :=
 ∀ (A:Around) (own:List Addr) (L:Addr) (ρ:List Addr) (m:Loc) (σ:List O) (s:Shared) (args:List V) (vargs:List Value) (Q:V->List O->Prop),AOk R A->Stat K mb own s.heap->Sat w own L ρ m σ s.heap->DenL w own ρ s.heap args vargs ->
  sp args σ Q->codeAny (model prog w) A (.call (.ref f) ⟨vargs,[]⟩) (PK w own L ρ m s Q) s
structure TabsOk(prog:Program)(w:World)(K:Frag)(mb:Str->Option Value)(R:Nat)(T:Tabs):Prop where
 fns:∀ a fi,T.fns.lookup a=some fi->FnOk K w a fi
 clss:∀ a ci,T.clss.lookup a=some ci->ClsOk K a ci
 globs:∀ x v,T.globs.lookup x=some v->GlobOk K mb w x v
 specs:∀ a sp,T.specs.lookup a=some sp->SpecOk prog w K mb R a sp
section
variable{prog:Program}{w:World}{K:Frag}{mb:Str->Option Value}{A:Around}{own ρ:List Addr}{L:Addr}{m:Loc}{σ:List O}{s:Shared}{R n:Nat}{T:Tabs}{F:Fra}{env:Env}
structure In(w:World)(K:Frag)(mb:Str->Option Value)(env:Env)(F:Fra)(own:List Addr)(L:Addr)(ρ:List Addr)(m:Loc)(σ:List O)(s:Shared):Prop where
 S:Sat w own L ρ m σ s.heap
 st:Stat K mb own s.heap
 E:EnvOk K env F L ρ
theorem In.next(I:In w K mb env F own L ρ m σ s){own' ρ':List Addr}{m' σ' s'}(x:Step own L ρ s own' ρ' s')(S':Sat w own' L ρ' m' σ' s'.heap):In w K mb env F own' L ρ' m' σ' s' :=
 ⟨S',I.st.ev (x.ev I.S.sub) x.new x.size,I.E.pre x.pre⟩
theorem In.ev(I:In w K mb env F own L ρ m σ s){own' ρ':List Addr}{s'}(x:Step own L ρ s own' ρ' s'):Ev own s.heap own' s'.heap:=x.ev I.S.sub
theorem In.grow(I:In w K mb env F own L ρ m σ s){s'}(g:Grow s s'):In w K mb env F own L ρ m σ s':=I.next (g.step own L ρ) (I.S.grows g)
theorem In.den(I:In w K mb env F own L ρ m σ s){own' ρ':List Addr}{s':Shared}{c:V}{v:Value}(x:Step own L ρ s own' ρ' s')(d:Den w own ρ s.heap c v):Den w own' ρ' s'.heap c v:=d.mono (I.ev x) x.pre
theorem In.denL(I:In w K mb env F own L ρ m σ s){own' ρ':List Addr}{s':Shared}{c:List V}{v:List Value}(x:Step own L ρ s own' ρ' s')(d:DenL w own ρ s.heap c v):DenL w own' ρ' s'.heap c v:=d.mono (I.ev x) x.pre
noncomputable abbrev qQ(prog:Program)(w:World)(K:Frag)(mb:Str->Option Value)(R:Nat)(T:Tabs)(n:Nat):Prop :=
 ∀ {F e m σ Q A env own L ρ s},wpE T n F e m σ Q->AOk (R+n / 2+1) A->In w K mb env F own L ρ m σ s->wpAny (model prog w) A (eval e env) (PV w own L ρ m s Q) noE s
noncomputable abbrev SndEs(prog:Program)(w:World)(K:Frag)(mb:Str->Option Value)(R:Nat)(T:Tabs)(n:Nat):Prop :=
 ∀ {F es m σ Q A env own L ρ s},wpEs T n F es m σ Q->AOk (R+n / 2+1) A->In w K mb env F own L ρ m σ s->∀ pos,wpAny (model prog w) A (spliced (backTo pos (starEach es env))) (PL w own L ρ m s Q) noE s
noncomputable abbrev SndO(prog:Program)(w:World)(K:Frag)(mb:Str->Option Value)(R:Nat)(T:Tabs)(n:Nat):Prop :=
 ∀ {F e m σ Q A env own L ρ s},wpO T n F e m σ Q->AOk (R+n / 2+1) A->In w K mb env F own L ρ m σ s->wpAny (model prog w) A (valueOrNone (evalOpt e env)) (PV w own L ρ m s Q) noE s
noncomputable abbrev SndT(prog:Program)(w:World)(K:Frag)(mb:Str->Option Value)(R:Nat)(T:Tabs)(n:Nat):Prop :=
 ∀ {F e m σ Q A env own L ρ s},wpT T n F e m σ Q->AOk (R+n / 2+1) A->In w K mb env F own L ρ m σ s->wpAny (model prog w) A (isTrue e env (eval e env)) (PB w own L ρ m s Q) noE s
noncomputable abbrev SndA(prog:Program)(w:World)(K:Frag)(mb:Str->Option Value)(R:Nat)(T:Tabs)(n:Nat):Prop :=
 ∀ {F op es m σ Q A env own L ρ s},wpA T n F op es m σ Q->AOk (R+n / 2+1) A->In w K mb env F own L ρ m σ s->wpAny (model prog w) A (allTrue op es env) (PB w own L ρ m s Q) noE s
noncomputable abbrev SndB(prog:Program)(w:World)(K:Frag)(mb:Str->Option Value)(R:Nat)(T:Tabs)(n:Nat):Prop :=
 ∀ {F op es m σ Q A env own L ρ s},wpB T n F op es m σ Q->AOk (R+n / 2+1) A->In w K mb env F own L ρ m σ s->∀ pos,wpAny (model prog w) A (boolOp pos op (evalEach es env)) (PV w own L ρ m s Q) noE s
noncomputable abbrev SndC(prog:Program)(w:World)(K:Frag)(mb:Str->Option Value)(R:Nat)(T:Tabs)(n:Nat):Prop :=
 ∀ {F ops rs a m σ Q A env own L ρ s va},wpC T n F ops rs a m σ Q->AOk (R+n / 2+1) A->In w K mb env F own L ρ m σ s->Den w own ρ s.heap a va->∀ pos,
  wpAny (model prog w) A (testChain pos va ops (markedEach ops rs (evalEach rs env))) (PB w own L ρ m s Q) noE s /\
  wpAny (model prog w) A (compareChain pos va ops (markedEach ops rs (evalEach rs env))) (fun v s'=>∃ b,v=.bool b/\PB w own L ρ m s Q b s') noE s
noncomputable abbrev SndF(prog:Program)(w:World)(K:Frag)(mb:Str->Option Value)(R:Nat)(T:Tabs)(n:Nat):Prop :=
 ∀ {f args σ Q A own L ρ m s vargs},wpF T n f args σ Q->AOk (R+(n+1) / 2) A->Stat K mb own s.heap->Sat w own L ρ m σ s.heap->DenL w own ρ s.heap args vargs ->
  codeAny (model prog w) A (.call (.ref f) ⟨vargs,[]⟩) (PK w own L ρ m s Q) s
noncomputable abbrev SndG(prog:Program)(w:World)(K:Frag)(mb:Str->Option Value)(R:Nat)(T:Tabs)(n:Nat):Prop :=
 ∀ {F t c m σ Q A env own L ρ s v},wpG T n F t c m σ Q->AOk (R+n / 2+1) A->In w K mb env F own L ρ m σ s->Den w own ρ s.heap c v->wpAny (model prog w) A (assign t env v) (PU w own L ρ s Q) noE s
noncomputable abbrev SndGs(prog:Program)(w:World)(K:Frag)(mb:Str->Option Value)(R:Nat)(T:Tabs)(n:Nat):Prop :=
 ∀ {F ts cs m σ Q A env own L ρ s vs},wpGs T n F ts cs m σ Q->AOk (R+n / 2+1) A->In w K mb env F own L ρ m σ s->DenL w own ρ s.heap cs vs->wpAny (model prog w) A (assignInOrder ((assignEach ts env).map (·.2)) vs) (PU w own L ρ s Q) noE s
noncomputable abbrev SndS(prog:Program)(w:World)(K:Frag)(mb:Str->Option Value)(R:Nat)(T:Tabs)(n:Nat):Prop :=
 ∀ {F st m σ Q A env own L ρ s},wpS T n F st m σ Q->AOk (R+(n+1) / 2) A->In w K mb env F own L ρ m σ s->wpAny (model prog w) A (exec st env) (PF w own L ρ s Q) noE s
noncomputable abbrev SndSs(prog:Program)(w:World)(K:Frag)(mb:Str->Option Value)(R:Nat)(T:Tabs)(n:Nat):Prop :=
 ∀ {F ss m σ Q A env own L ρ s},zI T n F ss m σ Q->AOk (R+n / 2) A->In w K mb env F own L ρ m σ s->wpAny (model prog w) A (execs ss env) (PF w own L ρ s Q) noE s
theorem PV.go{α:Type}{Q:V->List O->Prop}{P:α->Shared->Prop}{t:Sem Value}{k:Value->Sem α}(I:In w K mb env F own L ρ m σ s)(h:wpAny (model prog w) A t (PV w own L ρ m s Q) noE s)
  (hk:∀ own' ρ' c σ' v s',Step own L ρ s own' ρ' s'->In w K mb env F own' L ρ' m σ' s'->Den w own' ρ' s'.heap c v->Q c σ'->wpAny (model prog w) A (k v) P noE s') :
  wpAny (model prog w) A (t >>= k) P noE s :=
 wpAny_bind (wpAny_mono h (fun v s' ⟨own',ρ',c,σ',x,S',d,q⟩=>hk own' ρ' c σ' v s' x (I.next x S') d q) fun _ _ x=>x)
theorem PV.step{own' ρ':List Addr}{s':Shared}{Q:V->List O->Prop}{v:Value}{s'':Shared}(x:Step own L ρ s own' ρ' s')(h:PV w own' L ρ' m s' Q v s''):PV w own L ρ m s Q v s'' :=
 let ⟨o2,r2,c,σ2,y,S,d,q⟩:=h;⟨o2,r2,c,σ2,x.trans y,S,d,q⟩
theorem PB.step{own' ρ':List Addr}{s':Shared}{Q:Bool->List O->Prop}{v:Bool}{s'':Shared}(x:Step own L ρ s own' ρ' s')(h:PB w own' L ρ' m s' Q v s''):PB w own L ρ m s Q v s'' :=
 let ⟨o2,r2,σ2,y,S,q⟩:=h;⟨o2,r2,σ2,x.trans y,S,q⟩
theorem PF.step{own' ρ':List Addr}{s':Shared}{Q:Fl->Loc->List O->Prop}{v:Flow}{s'':Shared}(x:Step own L ρ s own' ρ' s')(h:PF w own' L ρ' s' Q v s''):PF w own L ρ s Q v s'' :=
 let ⟨o2,r2,c,m2,σ2,y,S,d,q⟩:=h;⟨o2,r2,c,m2,σ2,x.trans y,S,d,q⟩
theorem PU.step{own' ρ':List Addr}{s':Shared}{Q:Loc->List O->Prop}{v:Unit}{s'':Shared}(x:Step own L ρ s own' ρ' s')(h:PU w own' L ρ' s' Q v s''):PU w own L ρ s Q v s'' :=
 let ⟨o2,r2,m2,σ2,y,S,q⟩:=h;⟨o2,r2,m2,σ2,x.trans y,S,q⟩
theorem PV.here{Q:V->List O->Prop}{c:V}{v:Value}{s':Shared}(I:In w K mb env F own L ρ m σ s)(g:Grow s s')(d:Den w own ρ s'.heap c v)(q:Q c σ):PV w own L ρ m s Q v s' :=
 ⟨own,ρ,c,σ,g.step own L ρ,I.S.grows g,d,q⟩
theorem PV.ofPG{Q:V->List O->Prop}{v:Value}{s':Shared}(I:In w K mb env F own L ρ m σ s)(h:PG w own ρ s (fun c=>Q c σ) v s'):PV w own L ρ m s Q v s' :=
 let ⟨_,g,d,q⟩:=h;PV.here I g d q
theorem PB.go{α:Type}{Q:Bool->List O->Prop}{P:α->Shared->Prop}{t:Sem Bool}{k:Bool->Sem α}(I:In w K mb env F own L ρ m σ s)(h:wpAny (model prog w) A t (PB w own L ρ m s Q) noE s)
  (hk:∀ own' ρ' σ' b s',Step own L ρ s own' ρ' s'->In w K mb env F own' L ρ' m σ' s'->Q b σ'->wpAny (model prog w) A (k b) P noE s') :
  wpAny (model prog w) A (t >>= k) P noE s :=
 wpAny_bind (wpAny_mono h (fun b s' ⟨own',ρ',σ',x,S',q⟩=>hk own' ρ' σ' b s' x (I.next x S') q) fun _ _ x=>x)
theorem PL.go{α:Type}{Q:List V->List O->Prop}{P:α->Shared->Prop}{t:Sem (List Value)}{k:List Value->Sem α}(I:In w K mb env F own L ρ m σ s)(h:wpAny (model prog w) A t (PL w own L ρ m s Q) noE s)
  (hk:∀ own' ρ' c σ' v s',Step own L ρ s own' ρ' s'->In w K mb env F own' L ρ' m σ' s'->DenL w own' ρ' s'.heap c v->Q c σ'->wpAny (model prog w) A (k v) P noE s') :
  wpAny (model prog w) A (t >>= k) P noE s :=
 wpAny_bind (wpAny_mono h (fun v s' ⟨own',ρ',c,σ',x,S',d,q⟩=>hk own' ρ' c σ' v s' x (I.next x S') d q) fun _ _ x=>x)
theorem toV{Q:V->List O->Prop}{t:Sem Value}{own' ρ':List Addr}{s':Shared}(x:Step own L ρ s own' ρ' s')(h:wpAny (model prog w) A t (PV w own' L ρ' m s' Q) noE s'):wpAny (model prog w) A t (PV w own L ρ m s Q) noE s' :=
 wpAny_mono h (fun _ _ q=>q.step x) fun _ _ q=>q
theorem toB{Q:Bool->List O->Prop}{t:Sem Bool}{own' ρ':List Addr}{s':Shared}(x:Step own L ρ s own' ρ' s')(h:wpAny (model prog w) A t (PB w own' L ρ' m s' Q) noE s'):wpAny (model prog w) A t (PB w own L ρ m s Q) noE s' :=
 wpAny_mono h (fun _ _ q=>q.step x) fun _ _ q=>q
theorem toF{Q:Fl->Loc->List O->Prop}{t:Sem Flow}{own' ρ':List Addr}{s':Shared}(x:Step own L ρ s own' ρ' s')(h:wpAny (model prog w) A t (PF w own' L ρ' s' Q) noE s'):wpAny (model prog w) A t (PF w own L ρ s Q) noE s' :=
 wpAny_mono h (fun _ _ q=>q.step x) fun _ _ q=>q
theorem toU{Q:Loc->List O->Prop}{t:Sem Unit}{own' ρ':List Addr}{s':Shared}(x:Step own L ρ s own' ρ' s')(h:wpAny (model prog w) A t (PU w own' L ρ' s' Q) noE s'):wpAny (model prog w) A t (PU w own L ρ s Q) noE s' :=
 wpAny_mono h (fun _ _ q=>q.step x) fun _ _ q=>q
theorem const_ok{c:Const}{Q:V->Prop}(h:constP c Q):wpAny (model prog w) A (constValue env c) (PG w own ρ s Q) noE s:=by
 induction c using PySem.Const.casesOn with
 | none=>exact wpAny_pure ⟨.none,Grow.refl _,rfl,h⟩
 | bool b=>exact wpAny_pure ⟨.bool b,Grow.refl _,rfl,h⟩
 | int i=>exact up<|wpAny_mkInt ⟨.int i,Grow.tok _ _,⟨_,rfl⟩,h⟩
 | str x=>exact up<|wpAny_mkText ⟨.str x,Grow.tok _ _,⟨_,rfl⟩,h⟩
 | bytes b =>
  exact wpAny_bind (up<|wpAny_fresh (wpAny_pure ⟨V.bytes b,Grow.tok _ _,⟨_,rfl⟩,h⟩))
 | _=>exact h.elim
theorem glob_ok{x:Str}{v:V}{pos:Pos}{Q:V->Prop}(hT:TabsOk prog w K mb R T)(hg:T.globs.lookup x=some v)(I:In w K mb env F own L ρ m σ s)(hx:F.names.lookup x=some .globalImplicit)(q:Q v) :
  wpAny (model prog w) A (loadName env x) (PG w own ρ s Q) noE s:=by
 have hk:=I.E.kind;have hb:env.blockKind=.function:=by unfold Env.blockKind;refine rwp hk ?_;rfl
 have hka:=I.E.kindOf x;rw [hx] at hka;have e:loadName env x=loadGlobal env x:=by
  unfold loadName;refine rwp hb ?_;refine rwp hka ?_;simp only [hk,ScopeKind.isAnnotationScope,Bool.false_and,Bool.false_eq_true,if_false]
 refine rwp e ?_;obtain ⟨o3,h3⟩:=I.st.g;rcases hT.globs x v hg with ⟨u,hu,d⟩ | ⟨hn,u,hu,d⟩
 ·unfold loadGlobal;refine rwp I.E.globals ?_;refine wpAny_bind (up<|(looks_nsIn (M:=model prog w) I.st.in hu).here ?_);exact wpAny_pure ⟨v,Grow.refl _,d _ _ _,q⟩
 ·unfold loadGlobal;refine rwp I.E.globals ?_;refine rwp I.E.builtins ?_;refine wpAny_bind (up<|(looks_nsIn (M:=model prog w) I.st.in hn).here ?_);refine wpAny_bind (up<|wpAny_nsGet I.st.b ?_);refine rwp hu ?_;exact wpAny_pure ⟨v,Grow.refl _,d _ _ _,q⟩
theorem name_ok{x:Str}{Q:V->Prop}(hT:TabsOk prog w K mb R T)(h:nameP T F m σ x Q)(I:In w K mb env F own L ρ m σ s):wpAny (model prog w) A (loadName env x) (PG w own ρ s Q) noE s:=by
 apply gk;intro J;obtain ⟨k,hk,h⟩:=zN h;apply J;clear J;have hka:=I.E.kindOf x;rw [hk] at hka;have cell:cellP F σ x Q->∃ c u,env.cells.lookup x=some c/\s.heap.IsCell c (some u)/\∃ v,Den w own ρ s.heap v u/\Q v:=fun h=>by
  apply gk;intro J;obtain ⟨i,hi,h⟩:=zN h;obtain ⟨o,hv,h⟩:=zN h;obtain ⟨v,e,h⟩:=zN h;apply J;clear J;refine xQ hv fun o' hv k=>?_;rw [oCel_of k,e] at hv;apply gk;intro J;obtain ⟨c,h1,h2⟩:=I.E.cells x i hi;obtain ⟨o,g,u,h3,h4⟩:=I.S.objs i _ c hv h2;apply J;clear J;exact ⟨c,u,h1,⟨o,g,h3⟩,v,h4,h⟩
 induction k using PySem.NameKind.casesOn with
 | «local» =>
  apply gk;intro J;obtain ⟨v,hv,h⟩:=zN h;obtain ⟨mm,hn,hm⟩:=I.S.fr;obtain ⟨u,hu,d⟩:=hm x v hv;apply J;clear J;exact up<|wpAny_loadName_local I.E.kind hka (by refine rwp I.E.locals ?_;exact hn) hu ⟨v,Grow.refl _,d,h⟩
 | globalImplicit =>
  apply gk;intro J;obtain ⟨v,hv,h⟩:=zN h;apply J;clear J;exact glob_ok (pos:=default) hT hv I hk h
 | cell=>obtain ⟨c,u,h1,hc,v,d,q⟩:=cell h;exact up<|wpAny_loadName_cell I.E.kind hka h1 hc ⟨v,Grow.refl _,d,q⟩
 | free=>obtain ⟨c,u,h1,hc,v,d,q⟩:=cell h.2;exact up<|wpAny_loadName_free I.E.kind hka h1 hc ⟨v,Grow.refl _,d,q⟩ h.1
 | _=>exact h.elim
theorem Es_ok(hE:qQ prog w K mb R T n)(hEs:SndEs prog w K mb R T n):SndEs prog w K mb R T (n+1):=by
 intro F es m σ Q A env own L ρ s h hA I pos;have hA':AOk (R+n / 2+1) A:=hA.less (by lia);induction es using List.casesOn with
 | nil=>exact wpAny_pure ⟨own,ρ,[],σ,Step.refl _ _ _ _,I.S,rfl,h⟩
 | cons e es =>
  have h:wpE T n F e m σ fun v σ1=>wpEs T n F es m σ1 fun vs σ2=>Q (v::vs) σ2:=h;have he:starEach (e::es) env=(false,eval e env)::starEach es env:=by
   induction e using PySem.Expr.casesOn <;> first | rfl | skip
   induction n using Nat.casesAuxOn <;> exact h.elim
  refine rwp he ?_;show wpAny _ A (spliced ((false,eval e env)::backTo pos (starEach es env))) _ _ _
  rw [spliced];refine PV.go I (hE h hA' I) fun own' ρ' c σ' v s' x I' d q=>?_;simp only [Bool.false_eq_true,if_false];refine wpAny_bind (wpAny_pure (wpAny_bind (wpAny_holding (wpAny_mono (hEs q hA' I' pos) (fun vs s2 h2=>wpAny_pure ?_) fun _ _ x=>x))));obtain ⟨o2,r2,cs,σ2,y,S2,d2,q2⟩:=h2;exact ⟨o2,r2,c::cs,σ2,x.trans y,S2,DenL.cons (I'.den y d) d2,q2⟩
theorem O_ok(hE:qQ prog w K mb R T n):SndO prog w K mb R T (n+1):=by
 intro F e m σ Q A env own L ρ s h hA I;induction e using Option.casesOn with
 | none=>exact wpAny_pure ⟨own,ρ,.none,σ,Step.refl _ _ _ _,I.S,rfl,h⟩
 | some e=>exact hE (show wpE T n F e m σ Q from h) (hA.less (by lia)) I
theorem A_ok(hT:SndT prog w K mb R T n)(hAl:SndA prog w K mb R T n):SndA prog w K mb R T (n+1):=by
 intro F op es m σ Q A env own L ρ s h hA I;have hA':AOk (R+n / 2+1) A:=hA.less (by lia);induction es using List.casesOn with
 | nil=>exact wpAny_pure ⟨own,ρ,σ,Step.refl _ _ _ _,I.S,h⟩
 | cons x r =>
  rw [arm_allTrue_cons];induction op using PySem.BoolOp.casesOn with
  | And =>
   refine PB.go I (hT (show wpT T n F x m σ fun b σ1=>ifB b (wpA T n F .And r m σ1 Q) (Q false σ1) from h) hA' I) fun own' ρ' σ' b s' x I' q=>?_;induction b using Bool.casesOn
   ·exact wpAny_pure ⟨own',ρ',σ',x,I'.S,q⟩
   ·exact toB x (hAl q hA' I')
  | Or =>
   refine PB.go I (hT (show wpT T n F x m σ fun b σ1=>ifB b (Q true σ1) (wpA T n F .Or r m σ1 Q) from h) hA' I) fun own' ρ' σ' b s' x I' q=>?_;induction b using Bool.casesOn
   ·exact toB x (hAl q hA' I')
   ·exact wpAny_pure ⟨own',ρ',σ',x,I'.S,q⟩
theorem B_ok(hE:qQ prog w K mb R T n)(hB:SndB prog w K mb R T n):SndB prog w K mb R T (n+1):=by
 intro F op es m σ Q A env own L ρ s h hA I pos;have hA':AOk (R+n / 2+1) A:=hA.less (by lia);induction es using List.casesOn with
 | nil=>exact h.elim
 | cons e es =>
  induction es using List.casesOn with
  | nil=>exact hE (show wpE T n F e m σ Q from h) hA' I
  | cons e2 r =>
   induction op using PySem.BoolOp.casesOn with
   | And =>
    have h:wpE T n F e m σ fun a σ1=>vF a fun b=>ifB b (wpB T n F .And (e2::r) m σ1 Q) (Q a σ1):=h;refine PV.go I (hE h hA' I) fun own' ρ' c σ' v s' x I' d q=>?_;refine wpAny_bind (wpAny_standAt (wpAny_bind (wpAny_holding (up<|truth_ok q d fun b qb=>?_))));induction b using Bool.casesOn
    ·exact wpAny_pure ⟨own',ρ',c,σ',x,I'.S,d,qb⟩
    ·exact toV x (hB qb hA' I' pos)
   | Or =>
    have h:wpE T n F e m σ fun a σ1=>vF a fun b=>ifB b (Q a σ1) (wpB T n F .Or (e2::r) m σ1 Q):=h;refine PV.go I (hE h hA' I) fun own' ρ' c σ' v s' x I' d q=>?_;refine wpAny_bind (wpAny_standAt (wpAny_bind (wpAny_holding (up<|truth_ok q d fun b qb=>?_))));induction b using Bool.casesOn
    ·exact toV x (hB qb hA' I' pos)
    ·exact wpAny_pure ⟨own',ρ',c,σ',x,I'.S,d,qb⟩
theorem T_ok(hE:qQ prog w K mb R T n)(hT:SndT prog w K mb R T n)(hAl:SndA prog w K mb R T n)(hC:SndC prog w K mb R T n):SndT prog w K mb R T (n+1):=by
 intro F e m σ Q A env own L ρ s h hA I;have hA':AOk (R+n / 2+1) A:=hA.less (by lia);have plain:(wpE T n F e m σ fun a σ1=>vF a fun b=>Q b σ1)->isTrue e env (eval e env)=(do let v <- eval e env;standAt e.pos;holding [v] (truthy v))->wpAny (model prog w) A (isTrue e env (eval e env)) (PB w own L ρ m s Q) noE s:=fun h he=>by
  refine rwp he ?_;refine PV.go I (hE h hA' I) fun own' ρ' c σ' v s' x I' d q=>?_;exact wpAny_bind (wpAny_standAt (wpAny_holding (up<|truth_ok q d fun b qb=>⟨own',ρ',σ',x,I'.S,qb⟩)))
 induction e using PySem.Expr.casesOn with
 | UnaryOp op x p =>
  induction op using PySem.UnaryOp.casesOn with
  | Not =>
   rw [arm_isTrue_UnaryOp];refine PB.go I (hT (show wpT T n F x m σ fun b σ1=>Q (!b) σ1 from h) hA' I) fun own' ρ' σ' b s' x I' q=>?_;exact wpAny_pure ⟨own',ρ',σ',x,I'.S,q⟩
  | _=>exact plain h rfl
 | BoolOp op es p=>rw [arm_isTrue_BoolOp];exact hAl (show wpA T n F op es m σ Q from h) hA' I
 | IfExp=>exact h.elim
 | Compare l ops rs p =>
  rw [arm_isTrue_Compare];refine PV.go I (hE (show wpE T n F l m σ fun a σ1=>wpC T n F ops rs a m σ1 Q from h) hA' I) fun own' ρ' c σ' v s' x I' d q=>?_;exact toB x (hC q hA' I' d p).1
 | _=>exact plain h rfl
theorem marked_ok{op:CmpOp}{e:Expr}{P:Value->Shared->Prop}(he:∀ es k p,e≠.Set es k p)(h:wpAny (model prog w) A (eval e env) P noE s):wpAny (model prog w) A (markedBehindIn op e (eval e env)) P noE s:=by
 rw [markedBehindIn_of_false]
 ·exact h
 ·induction e using PySem.Expr.casesOn <;> first | rfl | exact absurd rfl (he _ _ _)
theorem C_ok(hE:qQ prog w K mb R T n)(hC:SndC prog w K mb R T n):SndC prog w K mb R T (n+1):=by
 intro F ops rs a m σ Q A env own L ρ s va h hA I da pos;have hA':AOk (R+n / 2+1) A:=hA.less (by lia);have notSet:∀ {e:Expr} {P:V->List O->Prop},wpE T n F e m σ P->∀ es k p,e≠.Set es k p:=fun h es k p q=>by
  subst q;induction n using Nat.casesAuxOn <;> exact h.elim
 apply gk;intro J;obtain ⟨op,ops,eo,h⟩:=consW_of h;obtain ⟨e,rs,er,h⟩:=consW_of h;apply J;clear J;refine rwp eo ?_;refine rwp er ?_
 ···induction ops using List.casesOn with
   | nil =>
    induction rs using List.casesOn with
    | cons=>exact fne (yE h).1
    | nil =>
     have h:wpE T n F e m σ fun b σ1=>cmpQ op σ1 a b fun c=>Q c σ1:=h;constructor
     ·skip
      refine PV.go I (wpAny_holding (marked_ok (notSet h) (hE h hA' I))) fun own' ρ' c σ' v s' x I' d q=>?_;refine wpAny_bind (wpAny_standAt (wpAny_bind (wpAny_operateT (wpAny_mono (up<|cmpP_ok hA' I'.st I'.S (cmpQ_P q) (I.den x da) d) (fun u s2 zz0=>?_) fun _ _ x=>x))));apply gk;intro J;obtain ⟨b,hb,g,qb⟩:=zz0;apply J;clear J;subst hb;exact wpAny_holding (wpAny_truthy_bool ⟨own',ρ',σ',x.trans (g.step _ _ _),I'.S.grows g,qb⟩)
     ·skip
      refine PV.go I (wpAny_holding (marked_ok (notSet h) (hE h hA' I))) fun own' ρ' c σ' v s' x I' d q=>?_;refine wpAny_bind (wpAny_standAt (wpAny_operateT (wpAny_mono (up<|cmpP_ok hA' I'.st I'.S (cmpQ_P q) (I.den x da) d) (fun u s2 zz0=>?_) fun _ _ x=>x)));apply gk;intro J;obtain ⟨b,hb,g,qb⟩:=zz0;apply J;clear J;exact ⟨b,hb,own',ρ',σ',x.trans (g.step _ _ _),I'.S.grows g,qb⟩
   | cons op2 ops =>
    induction rs using List.casesOn with
    | nil=>exact fne (yE h).1
    | cons e2 rs =>
     have h:wpE T n F e m σ fun b σ1=>cmpQ op σ1 a b fun c=>ifB c (wpC T n F (op2::ops) (e2::rs) b m σ1 Q) (Q false σ1):=h;constructor
     ·skip
      refine PV.go I (wpAny_holding (hE h hA' I)) fun own' ρ' c σ' v s' x I' d q=>?_;refine wpAny_bind (wpAny_standAt (wpAny_bind (wpAny_holding (wpAny_mono (up<|cmpP_ok hA' I'.st I'.S (cmpQ_P q) (I.den x da) d) (fun u s2 zz0=>?_) fun _ _ x=>x))));apply gk;intro J;obtain ⟨b,hb,g,qb⟩:=zz0;apply J;clear J;subst hb;refine wpAny_bind (wpAny_release (wpAny_bind (wpAny_holding (wpAny_truthy_bool ?_))));induction b using Bool.casesOn
      ·exact wpAny_pure ⟨own',ρ',σ',x.trans (g.step _ _ _),I'.S.grows g,qb⟩
      ·exact toB (x.trans (g.step _ _ _)) (hC qb hA' (I'.grow g) (d.grow g.keep) pos).1
     ·skip
      refine PV.go I (wpAny_holding (hE h hA' I)) fun own' ρ' c σ' v s' x I' d q=>?_;refine wpAny_bind (wpAny_standAt (wpAny_bind (wpAny_holding (wpAny_mono (up<|cmpP_ok hA' I'.st I'.S (cmpQ_P q) (I.den x da) d) (fun u s2 zz0=>?_) fun _ _ x=>x))));apply gk;intro J;obtain ⟨b,hb,g,qb⟩:=zz0;apply J;clear J;subst hb;refine wpAny_bind (wpAny_release (wpAny_bind (wpAny_holding (wpAny_truthy_bool ?_))));induction b using Bool.casesOn
      ·exact wpAny_pure ⟨false,rfl,own',ρ',σ',x.trans (g.step _ _ _),I'.S.grows g,qb⟩
      ·exact wpAny_mono (hC qb hA' (I'.grow g) (d.grow g.keep) pos).2 (fun u s3 ⟨b,hb,z⟩=>⟨b,hb,z.step (x.trans (g.step _ _ _))⟩) fun _ _ x=>x
end
end Mine
end
section
namespace Mine
section
variable{prog:Program}{w:World}{K:Frag}{mb:Str->Option Value}{A:Around}{own ρ:List Addr}{L:Addr}{m:Loc}{σ:List O}{s:Shared}{R n:Nat}{T:Tabs}{F:Fra}{env:Env}
theorem attrBase_ok{o:Expr}{attr:Str}{whole:Sem Value}(h:notSuper o=true):attributeBase o attr env whole=whole:=by
 unfold attributeBase;split
 ·rename_i id p1 pos
  have h:(!(id==("super" : Str)))=true:=h;have:(id != ("super" : Str))=true:=h;refine rwp this ?_;rfl
 ·rfl
theorem qS:∀ {es:List Expr} {pos:Pos},es.all kW=true->(backTo pos (starEach es env)).any (·.1)=false:=by
 intro zv;induction zv with
 | nil =>
  intro _ _;exact rfl
 | cons e es ih =>
  intro pos h;have h1:=List.all_cons ▸ h;obtain ⟨a,b⟩:=Bool.and_eq_true_iff.mp h1;have he:starEach (e::es) env=(false,eval e env)::starEach es env:=by
   induction e using PySem.Expr.casesOn <;> first | rfl | cases a
  refine rwp he ?_;exact ih (pos:=pos) b
theorem args_len{es:List Expr}(h:plainArgs es=true):es.length < 20/\es.all kW=true:=by
 obtain ⟨a,b⟩:=Bool.and_eq_true_iff.mp h;exact ⟨Nat.le_of_ble_eq_true a,b⟩
theorem evalArgs_ok{f:Value}{xs:List (Bool×Sem Value)}{P:Args->Shared->Prop}{E:Value->Shared->Prop}(hx:xs.any (·.1)=false)(h:wpAny (model prog w) A (spliced xs) (fun vs s'=>P ⟨vs,[]⟩ s') E s) :
  wpAny (model prog w) A (evalArgs f true xs []) P E s:=by
 rcases xs with _ | ⟨⟨b0,x⟩,_ | ⟨⟨b,y⟩,r⟩⟩
 ·exact wpAny_bind (wpAny_mono h (fun vs s' q=>wpAny_holding (wpAny_bind (wpAny_pure (wpAny_bind (wpAny_pure (wpAny_pure q)))))) fun _ _ x=>x)
 ·induction b0 using Bool.casesOn with
  | true=>exact absurd hx Bool.noConfusion
  | false=>exact wpAny_bind (wpAny_mono h (fun vs s' q=>wpAny_holding (wpAny_bind (wpAny_pure (wpAny_bind (wpAny_pure (wpAny_pure q)))))) fun _ _ x=>x)
 ·induction b0 using Bool.casesOn with
  | true=>exact absurd hx Bool.noConfusion
  | false=>exact wpAny_bind (wpAny_mono h (fun vs s' q=>wpAny_holding (wpAny_bind (wpAny_pure (wpAny_bind (wpAny_pure (wpAny_pure q)))))) fun _ _ x=>x)
noncomputable def Kept(prog:Program)(w:World)(f:Value)(s:Shared):Prop:=∃ k,Looks (model prog w) s.heap (keeperOf f) k
theorem qD{f:Value}{first:List Value}{xs:List (Bool×Sem Value)}{pos:Pos}{P:Value->Shared->Prop}{E:Value->Shared->Prop}(hx:xs.any (·.1)=false)
  (h:wpAny (model prog w) A (spliced xs) (fun vs s'=>Kept prog w f s'/\wpAny (model prog w) A (call f (first++vs)) P E s') E s):wpAny (model prog w) A (callWith pos f first xs []) P E s:=by
 refine wpAny_bind (wpAny_holding (evalArgs_ok hx (wpAny_mono h (fun vs s' zz0=>?_) fun _ _ x=>x)));obtain ⟨⟨k,hk⟩,q⟩:=zz0;refine wpAny_bind (wpAny_standAt ?_);simp only [hx,List.any_nil,Bool.or_false];have tail:∀ {t:Sem Value},wpAny (model prog w) A t P E s'->wpAny (model prog w) A (t >>= fun r=>holding [r] point >>= fun _=>pure r) P E s' :=
  fun ht=>wpAny_bind (wpAny_mono ht (fun r s₂ hr=>wpAny_bind (wpAny_holding (wpAny_point (wpAny_pure hr)))) fun _ _ x=>x)
 refine wpAny_bind (up<|hk.here ?_);induction k using PySem.Keeper.casesOn <;> dsimp only
 ·split
  ·exact tail q
  ·exact tail (wpAny_keep q)
 ·split
  ·exact tail q
  ·exact tail (wpAny_keep q)
 ·exact tail q
 ·exact tail (wpAny_operateT q)
theorem kept_fn{a:Addr}{fi:Fi}(hT:TabsOk prog w K mb R T)(hf:T.fns.lookup a=some fi)(X:K.In s.heap):Kept prog w (.ref a) s:=by
 obtain ⟨name,params,dV,kV,doc,pm,cdv,ct,an,oc,od,osl,hK,_⟩:=(hT.fns a fi hf).ex;exact ⟨.frame,(Looks.ld (part:=none) (X _ _ hK)).andThen .now⟩
theorem kept_cls{a:Addr}{ci}(hT:TabsOk prog w K mb R T)(hf:T.clss.lookup a=some ci)(X:K.In s.heap):Kept prog w (.ref a) s:=by
 have Y:=makes_of (M:=model prog w) X (hT.clss a ci hf).makes;apply gk;intro J;obtain ⟨oc,od,cd,sl,hC,_⟩:=Y.obj;apply J;clear J;exact ⟨.machine,(Looks.ld (part:=none) hC).andThen (Y.call.andThen .now)⟩
theorem kept_bi{g:V}{f:Value}(hg:(∃ i,g=.bi i)\/∃ i,g=.ty i)(d:Den w own ρ s.heap g f):Kept prog w f s:=by
 rcases hg with ⟨i,rfl⟩ | ⟨i,rfl⟩
 ·refine rwp (show f=.builtin i from d) ?_;exact ⟨.machine,.now⟩
 ·refine rwp (show f=.type i from d) ?_;exact ⟨.machine,.now⟩
theorem wpF_fn{f:Addr}{args:List V}{Q:V->List O->Prop}(h:wpF T n f args σ Q):∃ fi,T.fns.lookup f=some fi:=by
 induction n using Nat.casesAuxOn with
 | zero=>exact h.elim
 | succ n =>
  obtain ⟨fi,hf,_⟩:=zN h;exact ⟨fi,hf⟩
theorem callR{f:Value}{vargs:List Value}{Q:V->List O->Prop}(h:codeAny (model prog w) A (.call f ⟨vargs,[]⟩) (PR w own L ρ m s Q) s):wpAny (model prog w) A (call f vargs) (PV w own L ρ m s Q) noE s :=
 wpAny_call (codeAny_mono h fun r s' ⟨v,e,q⟩=>by subst e;exact q)
theorem callK{f:Value}{vargs:List Value}{Q:V->List O->Prop}(h:codeAny (model prog w) A (.call f ⟨vargs,[]⟩) (PK w own L ρ m s Q) s):wpAny (model prog w) A (call f vargs) (PV w own L ρ m s Q) noE s :=
 callR (codeAny_mono h fun _ _ q=>q.1)
theorem AOk.make{c:Addr}{rest:List Value}(x:AOk (r+1) A):AOk r (A.under (.builtin "type.__call__" ⟨.ref c::rest,[]⟩)):=by
 refine ⟨?_,?_,?_,?_⟩
 ·have e:(A.under (.builtin "type.__call__" ⟨.ref c::rest,[]⟩)).depth=A.depth+1:=rfl;refine rwp e ?_;have:=x.depth;lia
 ·have e:(A.under (.builtin "type.__call__" ⟨.ref c::rest,[]⟩)).units=A.units+1:=rfl;refine rwp e ?_;have:=x.units;lia
 ·exact x.handled
 ·exact x.guards
theorem new_ok{c:Addr}{ci}{args:List V}{vargs:List Value}{Q:V->List O->Prop}(hT:TabsOk prog w K mb R T)(hF:SndF prog w K mb R T n)(hc:T.clss.lookup c=some ci)
  (h:wpF T n ci.1 (.loc (σ.length+1)::args) (σ++[.attrs [] [],.inst c σ.length]) fun r σ3=>yX (isNone r) (Q (.loc (σ.length+1)) σ3))
  (hA:AOk (R+(n+1) / 2+1) A) (st:Stat K mb own s.heap) (S:Sat w own L ρ m σ s.heap) (d:DenL w own ρ s.heap args vargs) :
  codeAny (model prog w) A (.call (.ref c) ⟨vargs,[]⟩) (PR w own L ρ m s Q) s:=by
 have C:=hT.clss c ci hc;obtain ⟨hh,g,dr,t,os⟩:=s;have Y:=makes_of (M:=model prog w) st.in C.makes;have hi:=looks_findIn (M:=model prog w) st.in C.init;refine make_core Y hi (fun self=>bind_fn st.in self C.initFn) (.inl rfl) ?_;have S1:Sat w (own++[hh.objs.size]) L (ρ++[hh.objs.size]) m (σ++[.attrs [] []]) (hh.push emptyDict):=S.alloc (X:=.attrs [] []) ⟨[],0,rfl,rfl,rfl⟩ rfl;have x1:Step own L ρ ⟨hh,g,dr,t,os⟩ (own++[hh.objs.size]) (ρ++[hh.objs.size]) ⟨hh.push emptyDict,g,dr,t,os⟩:=Step.alloc (s:=⟨hh,g,dr,t,os⟩);have hj:(ρ++[hh.objs.size])[σ.length]?=some hh.objs.size:=by refine rwp S.len.symm ?_;simp
 have S2:=S1.alloc (X:=.inst c σ.length) (o:=instObj c hh.objs.size) ⟨_,hj,rfl⟩ rfl;have x2:Step (own++[hh.objs.size]) L (ρ++[hh.objs.size]) ⟨hh.push emptyDict,g,dr,t,os⟩ _ _ ⟨(hh.push emptyDict).push (instObj c hh.objs.size),g,dr,t,os⟩:=Step.alloc (s:=⟨hh.push emptyDict,g,dr,t,os⟩);rw [Heap.size_push] at S2;simp only [Heap.size_push] at x2;have x:=x1.trans x2;have st2:Stat K mb ((own++[hh.objs.size])++[hh.objs.size+1]) ((hh.push emptyDict).push (instObj c hh.objs.size)):=st.ev (x.ev S.sub) x.new x.size;have hl:((ρ++[hh.objs.size])++[hh.objs.size+1])[σ.length+1]?=some (hh.objs.size+1):=by
  refine rwp S.len.symm ?_;simp
 have d2:DenL w ((own++[hh.objs.size])++[hh.objs.size+1]) ((ρ++[hh.objs.size])++[hh.objs.size+1]) ((hh.push emptyDict).push (instObj c hh.objs.size)) (.loc (σ.length+1)::args) (.ref (hh.objs.size+1)::vargs) :=
  DenL.cons ⟨_,rfl,hl⟩ (d.mono (x.ev S.sub) x.pre)
 have h':wpF T n ci.1 (.loc (σ.length+1)::args) ((σ++[.attrs [] []])++[.inst c σ.length]) fun r σ3=>yX (isNone r) (Q (.loc (σ.length+1)) σ3):=by
  rw [List.append_assoc];exact h
 refine codeAny_mono (hF h' hA.make st2 S2 d2) fun r s' zz0=>?_;obtain ⟨⟨v,e,own3,ρ3,c3,σ3,y,S3,d3,q3⟩,_⟩:=zz0;subst e;obtain ⟨e3,q3⟩:=yE q3;rw [xA e3] at d3;exact ⟨d3,_,rfl,own3,ρ3,.loc (σ.length+1),σ3,x.trans y,S3,⟨_,rfl,y.pre _ _ hl⟩,q3⟩
end
end Mine
end
section
namespace Mine
section
variable{prog:Program}{w:World}{K:Frag}{mb:Str->Option Value}{A:Around}{own ρ:List Addr}{L:Addr}{m:Loc}{σ:List O}{s:Shared}{R n r:Nat}{T:Tabs}{F:Fra}{env:Env}
theorem closure_ok:∀ (names:List (Str×NameKind)) (acc:List (Str×Addr)) (f:Str×NameKind->List (Str×Addr)->Sem (ForInStep (List (Str×Addr)))),
  (∀ x k c,f (x,k) c=if (k==NameKind.free)=true then (do let a <- cellOf env x;pure (.yield ((x,a)::c))) else pure (.yield c)) ->
  (∀ p∈names,p.2=.free->∃ a,env.cells.lookup p.1=some a) ->
  (forIn names acc f:Sem (List (Str×Addr)))=pure ((((names.filter fun p=>p.2==.free).filterMap fun p=>(env.cells.lookup p.1).map (p.1,·)).reverse)++acc):=by
 intro zv;induction zv with
 | nil =>
  intro acc f hf h;rw [List.forIn_nil];rfl
 | cons zp r ih =>
  intro acc f hf h;obtain ⟨x,k⟩:=zp;rw [List.forIn_cons,hf];by_cases hk:(k==NameKind.free)=true
  ·rw [if_pos hk];obtain ⟨a,ha⟩:=h (x,k) (.head _) (by simpa using hk);have:cellOf env x=pure a:=by unfold cellOf;rw [ha]
   rw [this];show (forIn r ((x,a)::acc) f:Sem (List (Str×Addr)))=_
   rw [ih _ f hf fun p hp=>h p (.tail _ hp)];rw [List.filter_cons];simp only [hk,if_true,List.filterMap_cons,ha,Option.map_some,List.reverse_cons,List.append_assoc,List.singleton_append]
  ·rw [if_neg hk];show (forIn r acc f:Sem (List (Str×Addr)))=_
   rw [ih _ f hf fun p hp=>h p (.tail _ hp)];rw [List.filter_cons];simp only [hk];rfl
theorem fm1{α β:Type}(f:α->Option β)(p:α):[p].filterMap f=(f p).toList:=by
 cases h:f p <;> simp [h]
theorem Step.leave{L':Addr}{own3 ρ3:List Addr}{s1 s3:Shared}(S:Sat w own L ρ m σ s.heap)(hL:L'=s.heap.objs.size)(g:Grow s s1)(x:Step (own++[L']) L' ρ s1 own3 ρ3 s3) :
  Step own L ρ s own3 ρ3 s3:=by
 subst hL;refine ⟨x.gens.trans g.gens,x.os.trans g.os,fun a q=>x.sub a (List.mem_append_left _ q),fun a l q=>x.new a (Nat.lt_of_lt_of_le l g.size) fun z=>?_,x.pre,fun a l q=>x.newρ a (Nat.lt_of_lt_of_le l g.size) q,Nat.le_trans g.size x.size,fun a o e z=>x.keep a o (g.keep _ _ e) fun q=>?_⟩
 ·rcases List.mem_append.mp z with z | z
  ·exact q z
  ·rw [List.mem_singleton] at z;exact Nat.ne_of_lt l z
 ·rcases List.mem_cons.mp q with q | q
  ·exact Nat.ne_of_lt (Heap.lt_size e) q
  ·exact z (.tail _ q)
theorem Step.keepL{L':Addr}{own3 ρ3:List Addr}{s1 s3:Shared}(S:Sat w own L ρ m σ s.heap)(hL:L'=s.heap.objs.size)(g:Grow s s1)(x:Step (own++[L']) L' ρ s1 own3 ρ3 s3) :
  ∀ o,s.heap.get? L=some o->s3.heap.get? L=some o:=fun o e=>x.keep L o (g.keep _ _ e) fun q=>by
 rcases List.mem_cons.mp q with q | q
 ·rw [hL] at q;exact Nat.ne_of_lt (S.lt L (S.sub L (.head _))) q
 ·exact S.nl q
theorem Sat.leave{L':Addr}{own3 ρ3:List Addr}{s1 s3:Shared}{m3:Loc}{σ3:List O}(S:Sat w own L ρ m σ s.heap)(hL:L'=s.heap.objs.size)(g:Grow s s1)(x:Step (own++[L']) L' ρ s1 own3 ρ3 s3)(S3:Sat w own3 L' ρ3 m3 σ3 s3.heap) :
  Sat w own3 L ρ3 m σ3 s3.heap:=by
 have y:=x.leave S hL g;have hl:L < s.heap.objs.size:=S.lt L (S.sub L (.head _));refine ⟨S3.len,S3.nodup,y.newρ L hl S.nl,fun a ha=>?_,S3.lt,S3.objs,S.fr.mono (y.ev S.sub) y.pre fun o e=>?_⟩
 ·rcases List.mem_cons.mp ha with q | q
  ·exact y.sub a (S.sub a (q ▸ .head _))
  ·exact S3.sub a (.tail _ q)
 ·refine x.keep L o (g.keep _ _ e) fun q=>?_;rcases List.mem_cons.mp q with q | q
  ·rw [hL] at q;exact Nat.ne_of_lt hl q
  ·exact S.nl q
theorem lam_binds{q x:Str}{ps:Arguments}{body:Expr}{sc:Scope}{cl:List (Str×Addr)}{pm cdv ct v:Value}(h:lamArg ps=some x):bindArgs (kla_fn "<lambda>" q ps body sc cl pm cdv ct) ⟨[v],[]⟩=pure [(x,v)]:=by
 apply gk;intro J;obtain ⟨p,q,rfl⟩:=lamArg_of h;apply J;clear J;unfold lamOne;simp [bindArgs,seqItems?];rfl
theorem clo_kept{i:Nat}{q x:Str}{sc:Scope}{body:Expr}{cs:List (Str×Nat)}{vf:Value}(S:Sat w own L ρ m σ s.heap)(ho:σ[i]?=some (.clo q x sc body cs))(d:Den w own ρ s.heap (.loc i) vf):Kept prog w vf s:=by
 obtain ⟨a,rfl,ha⟩:=d;obtain ⟨o,g,ps,cl,pm,ctv,c',rfl,_⟩:=S.objs i _ a ho ha;exact ⟨.frame,(Looks.ld (part:=none) g).andThen .now⟩
theorem clo_ok(hE:∀ k,n=k+1->qQ prog w K mb R T k){i:Nat}{q x:Str}{sc:Scope}{body:Expr}{cs:List (Str×Nat)}{v:V}{vf:Value}{vs:List Value}{Q:V->List O->Prop}(hA:AOk (R+(n+1) / 2+1) A)(st:Stat K mb own s.heap)(S:Sat w own L ρ m σ s.heap)
  (ho:σ[i]?=some (.clo q x sc body cs)) (h:yX (cloOk sc x) (wpO T n ⟨sc.names,cs,none⟩ (some body) [(x,v)] σ Q)) (d:Den w own ρ s.heap (.loc i) vf) (dv:DenL w own ρ s.heap [v] vs) :
  codeAny (model prog w) A (.call vf ⟨vs,[]⟩) (PR w own L ρ m s Q) s:=by
 apply gk;intro J;obtain ⟨h1,h2⟩:=yE h;apply J;clear J;induction n using Nat.casesAuxOn with
 | zero=>exact h2.elim
 | succ n =>
 have h2:wpE T n ⟨sc.names,cs,none⟩ body [(x,v)] σ Q:=h2;unfold cloOk at h1;simp only [Bool.and_eq_true] at h1;apply gk;intro J;obtain ⟨⟨⟨⟨k1,k2⟩,k3⟩,k4⟩,k5⟩:=h1;have k1:sc.kind=.function:=by simpa using k1
 have k4:sc.names.lookup x=some .local:=by simpa using k4
 have k5:∀ y∈sc.names,y.2≠.cell:=fun y hy=>by simpa using List.all_eq_true.mp k5 y hy
 obtain ⟨a,rfl,ha⟩:=d;obtain ⟨vv,l,rfl,dvv,rfl⟩:=dv;obtain ⟨o,g,ps,cl,pm,ctv,c',rfl,hps,nc,⟨oc,vs,t,gc,hcd,hct⟩,hcl⟩:=S.objs i _ a ho ha;apply J;clear J;refine kla_callFunE hA.room g rfl (by simpa using k3) (by simpa using k2) rfl ⟨c',oc,vs,t,rfl,gc,hcd,hct⟩ ?_;rw [lam_binds hps];refine wpAny_pure (up<|wpAny_newFunctionEnv k5 (by intro y hy;simp at hy;rw [hy];exact k4) (fun h₁ hns hsb=>?_) k1);dsimp only at hns hsb ⊢;have fresh:∀ a∈own,a≠s.heap.objs.size:=fun a ha=>Nat.ne_of_lt (S.lt a ha);have hz:h₁.objs.size=s.heap.objs.size+1:=by rw [hsb.1,Heap.size_push]
 have old:∀ b o,s.heap.get? b=some o->h₁.get? b=some o:=fun b o e=>hsb.extBut b o (Nat.ne_of_lt (Heap.lt_size e)) (Heap.get?_push_of_some _ e);have ev:Ev own s.heap (own++[s.heap.objs.size]) h₁:=fun a oa e n=>⟨old _ _ e,fun q=>by
  rcases List.mem_append.mp q with q | q
  ·exact n q
  ·rw [List.mem_singleton] at q;exact Nat.ne_of_lt (Heap.lt_size e) q⟩
 generalize hs1:({ s with heap:=h₁,toks:=s.toks+[(x,vv)].length }:Shared)=s1;have e1:s1.heap=h₁:=by rw [<- hs1]
 have st1:Stat K mb (own++[s.heap.objs.size]) s1.heap:=by
  rw [e1];refine st.ev ev (fun a l q z=>?_) (by rw [hz];exact Nat.le_succ _);rcases List.mem_append.mp z with z | z
  ·exact q z
  ·rw [List.mem_singleton] at z;exact Nat.ne_of_lt l z
 have S1:Sat w (own++[s.heap.objs.size]) s.heap.objs.size ρ [(x,v)] σ s1.heap:=by
  rw [e1];refine ⟨S.len,S.nodup,fun q=>fresh _ (S.sub _ (.tail _ q)) rfl,fun a ha=>?_,fun a ha=>?_,fun i X a e1 e2=>?_,_,hns,fun y V e=>?_⟩
  ·rcases List.mem_cons.mp ha with q | q
   ·exact List.mem_append_right _ (q ▸ .head _)
   ·exact List.mem_append_left _ (S.sub _ (.tail _ q))
  ·rw [hz];rcases List.mem_append.mp ha with q | q
   ·exact Nat.lt_succ_of_lt (S.lt a q)
   ·rw [List.mem_singleton] at q;subst q;exact Nat.lt_succ_self _
  ·apply gk;intro J;obtain ⟨o,g,d⟩:=S.objs i X a e1 e2;apply J;clear J;exact ⟨o,old _ _ g,d.mono ev (fun _ _ q=>q)⟩
  ·rw [List.lookup_cons] at e;refine ⟨vv,?_,?_⟩
   ·show List.lookup y [(x,vv)]=_
    rw [List.lookup_cons];cases hb:y==x with
    | true=>rfl
    | false=>rw [hb] at e;cases e
   ·cases hb:y==x with
    | true=>rw [hb] at e;cases e;exact dvv.mono ev (fun _ _ q=>q)
    | false=>rw [hb] at e;cases e
 have g1:Grow s s1:=by rw [<- hs1];exact ⟨rfl,rfl,by show _<=h₁.objs.size;rw [hz];exact Nat.le_succ _,old⟩
 refine ⟨e1 ▸ st1.lim,kla_codeExpr ?_⟩;have I1:In w K mb (newEnv sc s.heap.objs.size mainGlobals cl (q ++ ".<locals>.") (some a) (.ref c') none builtinsNs) ⟨sc.names,cs,none⟩ (own++[s.heap.objs.size]) s.heap.objs.size ρ [(x,v)] σ s1 :=
  ⟨S1,st1,⟨k1,rfl,rfl,rfl,rfl,hcl,fun _ e=>by cases e⟩⟩
 refine wpAny_mono (hE n rfl h2 (hA.less (by simp +arith [*]:R+n / 2+1+1<=_)).deeper I1) (fun u s3 zz0=>?_) fun _ _ x=>x.elim;apply gk;intro J;obtain ⟨o3,r3,c,σ3,x3,S3,d3,q3⟩:=zz0;apply J;clear J;have y3:Step own L ρ s o3 r3 s3:=Step.leave S rfl g1 x3;exact ⟨u,rfl,o3,r3,c,σ3,y3,Sat.leave S rfl g1 x3 S3,d3,q3⟩
theorem lam_closure{sc:Scope}(h:lamOk F sc=true)(E:EnvOk K env F L ρ):∃ cl,closureFor sc env=pure cl/\∀ y i,(zP F sc).cells.lookup y=some i->∃ a,cl.lookup y=some a/\ρ[i]?=some a:=by
 obtain ⟨h2,h3⟩:=Bool.and_eq_true_iff.mp h;have hn:∀ p∈sc.names,p.2=.free->∃ i,F.cells.lookup p.1=some i:=fun p hp q=>by
  have:=List.all_eq_true.mp h2 p hp;simp only [Bool.or_eq_true,Bool.and_eq_true,beq_iff_eq] at this;rcases this with (h | h) | h
  ·rw [h] at q;cases q
  ·rw [h] at q;cases q
  ·exact Option.isSome_iff_exists.mp h.2
 have hone:(sc.names.filter fun p=>p.2==.free).length<=1:=Nat.le_of_ble_eq_true h3;have hc:=closure_ok (env:=env) sc.names [] (fun (x,k) c=>if (k==NameKind.free)=true then (do let a <- cellOf env x;pure (.yield ((x,a)::c))) else pure (.yield c)) (fun _ _ _=>rfl) (fun p hp q=>by
  obtain ⟨i,hi⟩:=hn p hp q;obtain ⟨c,hc,_⟩:=E.cells p.1 i hi;exact ⟨c,hc⟩)
 refine ⟨((sc.names.filter fun p=>p.2==.free).filterMap fun p=>(env.cells.lookup p.1).map (p.1,·)).reverse,?_,fun x i hx=>?_⟩
 ·skip
  simp only [List.append_nil] at hc;show (forIn sc.names [] (fun x c=>if (x.2==NameKind.free)=true then (do let a <- cellOf env x.1;pure (.yield ((x.1,a)::c))) else pure (.yield c)) >>= fun c=>pure c:Sem (List (Str×Addr)))=_
  refine rwp (show (forIn sc.names [] (fun x c=>if (x.2==NameKind.free)=true then (do let a <- cellOf env x.1;pure (.yield ((x.1,a)::c))) else pure (.yield c)):Sem (List (Str×Addr)))=_ from hc) ?_;rfl
 ·have hx:((sc.names.filter fun p=>p.2==.free).filterMap fun p=>(F.cells.lookup p.1).map (p.1,·)).lookup x=some i:=hx
  match hfl:sc.names.filter fun p=>p.2==.free,hone with
  | [],_=>rw [hfl] at hx;cases hx
  | [p],_ =>
   refine rwp hfl ?_;rw [fm1];rw [hfl,fm1] at hx;cases hi:F.cells.lookup p.1 with
   | none=>rw [hi] at hx;cases hx
   | some j =>
    obtain ⟨c,h1,h2⟩:=E.cells p.1 j hi;rw [hi] at hx;refine rwp h1 ?_;have hx:List.lookup x [(p.1,j)]=some i:=hx;show ∃ c',List.lookup x [(p.1,c)]=some c'/\ρ[i]?=some c'
    rw [List.lookup_cons] at hx ⊢;cases hb:x==p.1 with
    | true=>rw [hb] at hx;cases hx;exact ⟨c,rfl,h2⟩
    | false=>rw [hb] at hx;cases hx
  | _::_::_,_=>rw [hfl] at hone;exact absurd hone (Nat.not_le_of_lt (Nat.succ_lt_succ (Nat.succ_pos _)))
theorem lam_plain{ps:Arguments}{x:Str}(h:lamArg ps=some x):defaultsOf ps env=([],[]):=by
 obtain ⟨p,q,rfl⟩:=lamArg_of h;rfl
theorem Sat.updX{i:Nat}{a:Addr}{X':O}{o':Obj}{h h':Heap}(S:Sat w own L ρ m σ h)(ha:ρ[i]?=some a)(hs:∀ b o,b≠a->h.get? b=some o->h'.get? b=some o)(hz:h.objs.size<=h'.objs.size)(g:h'.get? a=some o')(d:ODen w own ρ h X' o'):Sat w own L ρ m (σ.set i X') h':=by
 have hm:a∈ρ:=List.mem_of_getElem? ha;have k:Ev own h own h':=fun b o e n=>⟨hs b o (fun q=>n (q ▸ S.mem ha)) e,n⟩
 refine ⟨by refine rwp List.length_set ?_;exact S.len,S.nodup,S.nl,S.sub,fun b q=>Nat.lt_of_lt_of_le (S.lt b q) hz,fun j X b e1 e2=>?_,S.fr.mono k (fun _ _ q=>q) fun o e=>hs L o (fun q=>S.nl (q ▸ hm)) e⟩;rw [List.getElem?_set] at e1;split at e1
 ·rename_i q
  subst q;rw [ha] at e2;cases e2;split at e1
  ·cases e1;exact ⟨o',g,d.mono k (fun _ _ q=>q)⟩
  ·cases e1
 ·rename_i q
  obtain ⟨o,g',d'⟩:=S.objs j X b e1 e2;have hne:b≠a:=fun z=>by
   subst z;obtain ⟨h1,h2⟩:=List.getElem?_eq_some_iff.mp ha;obtain ⟨h3,h4⟩:=List.getElem?_eq_some_iff.mp e2;exact q ((List.getElem_inj S.nodup).mp (h2.trans h4.symm))
  exact ⟨o,hs b o hne g',d'.mono k (fun _ _ q=>q)⟩
theorem lam_ok{ps:Arguments}{body:Expr}{sc:Scope}{p:Pos}{Q:V->List O->Prop}(h:yB F.lam fun q=>yB (lamArg ps) fun x=>yX (lamOk F sc) (σ[0]?=some (.raw (tabObj #[]))/\Q (.loc σ.length) ((σ.set 0 .tab)++[.clo (q ++ "<lambda>") x sc body (zP F sc).cells]))) (I:In w K mb env F own L ρ m σ s):wpAny (model prog w) A (eval (.Lambda ps body sc p) env) (PV w own L ρ m s Q) noE s:=by
 apply gk;intro J;obtain ⟨q,hq,h⟩:=zN h;obtain ⟨x,hx,h⟩:=zN h;obtain ⟨h1,h2,h3⟩:=yE h;obtain ⟨eq,c,P,ec,eP,hK⟩:=I.E.lam q hq;obtain ⟨cl,hcl,hcc⟩:=lam_closure h1 I.E;obtain ⟨mg,bm,ob,b1,b2,b3,b4,b5,b6,b7,b8,b9⟩:=I.st.bm;obtain ⟨oP,gP,dP⟩:=I.S.objs 0 _ P h2 eP;apply J;clear J;have dP:oP=tabObj #[]:=dP;subst dP;have hPo:P∈own:=I.S.mem eP;refine kla_eval (lam_plain hx) (up<|kla_makeFunction hcl I.E.globals b1 ec (codeHd_of_K I.st.in hK) gP trivial rfl (fun z=>I.st.gn (z ▸ hPo)) ⟨bm,ob,b2,b3,b4,fun z=>b5 (z ▸ hPo),b6,b7,b8,b9⟩ fun c' ctv h' tk hx' hge hlt hrec htab=>?_);have hz:s.heap.objs.size<=h'.objs.size:=Nat.le_of_lt (Nat.lt_of_le_of_lt hge hlt);apply gk;intro J;obtain ⟨_,oc,vs,t,ecc,hoc,hd,hv⟩:=hrec;apply J;clear J;cases ecc;have x1:Step own L ρ s own ρ { s with heap:=h',toks:=tk }:=⟨rfl,rfl,fun _ q=>q,fun _ _ q=>q,fun _ _ q=>q,fun _ _ q=>q,hz,fun b o e n=>hx' b o (fun q=>n (q ▸ .tail _ (List.mem_of_getElem? eP))) e⟩
 have S1:Sat w own L ρ m (σ.set 0 .tab) h':=I.S.updX (X':=.tab) eP (fun b o n e=>hx' b o n e) hz htab ⟨_,rfl⟩;have hnc:c'∉own:=fun z=>Nat.lt_irrefl _ (Nat.lt_of_lt_of_le (I.S.lt _ z) hge);have S2:=S1.alloc (X:=.clo (q ++ "<lambda>") x sc body (zP F sc).cells) (o:=kla_obj "<lambda>" (env.qual ++ "<lambda>") ps body sc cl ((mg "__name__").getD .none) c' ctv)
  ⟨ps,cl,_,ctv,c',by rw [eq],hx,hnc,⟨oc,vs,t,hoc,hd,by rw [<- eq];exact hv⟩,hcc⟩ rfl
 exact ⟨_,_,.loc σ.length,_,x1.trans (Step.alloc (s:={ s with heap:=h',toks:=tk }) (t:=tk)),S2,⟨_,rfl,by rw [<- I.S.len];simp⟩,h3⟩
end
end Mine
end
section
namespace Mine
section
variable{prog:Program}{w:World}{K:Frag}{mb:Str->Option Value}{A:Around}{own ρ:List Addr}{L:Addr}{m:Loc}{σ:List O}{s:Shared}{R n:Nat}{T:Tabs}{F:Fra}{env:Env}
noncomputable abbrev SndCm(prog:Program)(w:World)(K:Frag)(mb:Str->Option Value)(R:Nat)(T:Tabs)(n:Nat):Prop :=
 ∀ {F elt t it sc p m σ Q A env own L ρ s},wpE T (n+1) F (.ListComp elt [⟨t,it,[],0⟩] sc p) m σ Q->AOk (R+(n+1) / 2+1) A->In w K mb env F own L ρ m σ s ->
  wpAny (model prog w) A (eval (.ListComp elt [⟨t,it,[],0⟩] sc p) env) (PV w own L ρ m s Q) noE s
noncomputable abbrev SndDi(prog:Program)(w:World)(K:Frag)(mb:Str->Option Value)(R:Nat)(T:Tabs)(n:Nat):Prop :=
 ∀ {F ks es p m σ Q A env own L ρ s},wpE T (n+1) F (.Dict ks es p) m σ Q->AOk (R+(n+1) / 2+1) A->In w K mb env F own L ρ m σ s ->
  wpAny (model prog w) A (eval (.Dict ks es p) env) (PV w own L ρ m s Q) noE s
theorem frz{o:Obj}{t:Tok}{c:V}{Q:V->List O->Prop}(I:In w K mb env F own L ρ m σ s)(d:Den w own ρ (s.heap.push o) c (.ref s.heap.objs.size))(q:Q c σ) :
  PV w own L ρ m s Q (.ref s.heap.objs.size) { s with heap:=s.heap.push o,toks:=t }:=PV.here I (Grow.push s o t) d q
theorem fresh_not(I:In w K mb env F own L ρ m σ s):s.heap.objs.size∉own:=fun q=>Nat.lt_irrefl _ (I.S.lt _ q)
theorem newList_ok{ow:Bool}{vs:List V}{xs:List Value}{Q:V->List O->Prop}(I:In w K mb env F own L ρ m σ s)(h:newList ow vs σ Q)(d:DenL w own ρ s.heap vs xs)(hb:xs.length<=sizeLine) :
  wpAny (model prog w) A (PySem.newList xs) (PV w own L ρ m s Q) noE s:=by
 refine up<|wpAny_newObj_type ?_ (by show xs.toArray.size<=sizeLine;refine rwp List.size_toArray ?_;exact hb)
 induction ow using Bool.casesOn with
 | false =>
  refine frz (t:=s.toks) (c:=.lst vs) I ⟨_,xs.toArray,0,rfl,fresh_not I,Heap.get?_push_size _ rfl,?_⟩ h;exact d.grow fun _ _ e=>Heap.get?_push_of_some _ e
 | true =>
  exact ⟨_,_,.loc σ.length,_,Step.alloc (t:=s.toks),I.S.alloc (X:=.list vs) ⟨xs.toArray,0,rfl,d⟩ rfl,⟨_,rfl,by refine rwp I.S.len.symm ?_;simp⟩,h⟩
theorem sub_ok{v:Expr}{i:Expr}{p:Pos}{P:Value->Shared->Prop}(h:wpAny (model prog w) A (eval v env) (fun o s₁=>wpAny (model prog w) A (eval i env) (fun x s₂=>wpAny (model prog w) A (subscriptTail v i o x) P noE s₂) noE s₁) noE s) :
  wpAny (model prog w) A (eval (.Subscript v i p) env) P noE s:=Subscript_ h
theorem isSli_no{i:Expr}(h:asSli i=none):isSliceE i=false:=by
 induction i using PySem.Expr.casesOn with
 | Slice=>exact nomatch h
 | _=>rfl
theorem call_plain{f:Expr}{args:List Expr}{p:Pos}(h:asAttr f=none):eval (.Call f args [] p) env=(do callWith p (<- eval f env) [] (backTo p (starEach args env)) (backToKw p (keywordEach [] env))):=by
 induction f using PySem.Expr.casesOn with
 | Attribute=>exact nomatch h
 | _=>rfl
theorem E_ok(hT:TabsOk prog w K mb R T)(hE:qQ prog w K mb R T n)(hEs:SndEs prog w K mb R T n)(hO:SndO prog w K mb R T n)(hTt:SndT prog w K mb R T n)(hB:SndB prog w K mb R T n)(hC:SndC prog w K mb R T n)
  (hF:SndF prog w K mb R T n) (hEp:∀ k,n=k+1->qQ prog w K mb R T k) (hCm:SndCm prog w K mb R T n) (hDi:SndDi prog w K mb R T n):qQ prog w K mb R T (n+1):=by
 intro F e m σ Q A env own L ρ s h hA I;have hA':AOk (R+n / 2+1) A:=hA.less (by lia);have hC0:=hT.clss;induction e using PySem.Expr.casesOn with
 | Constant c k p =>
  rw [arm_eval_Constant];exact wpAny_mono (const_ok (own:=own) (ρ:=ρ) (show constP c fun v=>Q v σ from h)) (fun v s' q=>PV.ofPG I q) fun _ _ x=>x
 | Name x p =>
  obtain ⟨h1,h2⟩:=yE (show yX (!(x == "__debug__")) (nameP T F m σ x fun v=>Q v σ) from h);refine wpAny_Name (wpAny_mono (name_ok hT h2 I) (fun v s' q=>PV.ofPG I q) fun _ _ x=>x) ?_;cases hd:(x==("__debug__" : Str)) with
  | false=>rfl
  | true=>rw [hd] at h1;cases h1
 | BinOp l op r p =>
  rw [arm_eval_BinOp];refine PV.go I (hE (show wpE T n F l m σ fun a σ1=>wpE T n F r m σ1 fun b σ2=>binQ op a b fun c=>Q c σ2 from h) hA' I) fun own' ρ' a σ' va s' x I' da q=>?_;refine PV.go I' (wpAny_holding (hE q hA' I')) fun own2 ρ2 b σ2 vb s2 y I2 db q2=>?_;refine wpAny_bind (wpAny_standAt (wpAny_operateT ?_));exact wpAny_mono (up<|binP_ok hA' I2.S.lt (binQ_P q2) (I'.den y da) db) (fun v s3 z=>(PV.ofPG I2 z).step (x.trans y)) fun _ _ x=>x
 | UnaryOp op x p =>
  rw [arm_eval_UnaryOp];induction op using PySem.UnaryOp.casesOn with
  | USub =>
   have h:wpE T n F x m σ fun a σ1=>yB (zL a) fun i=>Q (.int (-i)) σ1:=h;refine PV.go I (hE h hA' I) fun own' ρ' a σ' va s' x I' da q=>?_;obtain ⟨i,ei,q⟩:=zN q;rw [zJ ei] at da;obtain ⟨t,ev⟩:=da;rw [ev];exact wpAny_bind (wpAny_standAt (wpAny_holding (up<|neg_ok ((PV.here I' (c:=.int (-_)) (Grow.tok _ _) ⟨_,rfl⟩ q).step x))))
  | Not =>
   have h:wpE T n F x m σ fun a σ1=>vF a fun b=>Q (.bool (!b)) σ1:=h;refine PV.go I (hE h hA' I) fun own' ρ' a σ' va s' x I' da q=>?_;exact wpAny_bind (wpAny_standAt (wpAny_holding (not_value (up<|truth_ok q da fun b qb=>(PV.here I' (c:=.bool (!b)) (Grow.refl _) rfl qb).step x))))
  | _=>exact h.elim
 | IfExp t b o p =>
  rw [arm_eval_IfExp];refine PB.go I (hTt (show wpT T n F t m σ fun c σ1=>ifB c (wpE T n F b m σ1 Q) (wpE T n F o m σ1 Q) from h) hA' I) fun own' ρ' σ' c s' x I' q=>?_;induction c using Bool.casesOn
  ·exact toV x (hE (show wpE T n F o m σ' Q from q) hA' I')
  ·exact toV x (hE (show wpE T n F b m σ' Q from q) hA' I')
 | BoolOp op es p=>rw [arm_eval_BoolOp];exact hB (show wpB T n F op es m σ Q from h) hA' I p
 | Compare l ops rs p =>
  rw [arm_eval_Compare];refine PV.go I (hE (show wpE T n F l m σ fun a σ1=>wpC T n F ops rs a m σ1 fun b σ2=>Q (.bool b) σ2 from h) hA' I) fun own' ρ' a σ' va s' x I' da q=>?_;refine wpAny_mono (hC q hA' I' da p).2 (fun v s2 zz0=>?_) fun _ _ x=>x;obtain ⟨b,e,o2,r2,σ2,y,S2,q2⟩:=zz0;subst e;exact ⟨o2,r2,.bool b,σ2,x.trans y,S2,rfl,q2⟩
 | Call f args kws p =>
  induction kws using List.casesOn with
  | cons=>exact h.elim
  | nil =>
   cases hf:asAttr f with
   | none =>
    have h:=jG (o:=asAttr f) h hf;rw [call_plain hf];obtain ⟨h1,h2⟩:=yE h;obtain ⟨hlen,hstar⟩:=args_len h1;refine PV.go I (hE h2 hA' I) fun own' ρ' g σ' vg s' x I' dg q=>?_;refine qD (qS hstar) (wpAny_mono (hEs q hA' I' p) (fun vs s2 zz0=>?_) fun _ _ x=>x);obtain ⟨o2,r2,cs,σ2,y,S2,d2,q2⟩:=zz0;have I2:=I'.next y S2;have dg2:=I'.den y dg;rw [List.nil_append];induction g using Mine.V.casesOn with
    | ref a =>
     rw [show vg=.ref a from dg2];cases hc:T.clss.lookup a with
     | some ci =>
      have q2:=jF (o:=T.clss.lookup a) q2 hc;exact ⟨kept_cls hT hc I2.st.in,toV (x.trans y) (callR (new_ok hT hF hc q2 hA I2.st I2.S d2))⟩
     | none =>
      have q2:=jG (o:=T.clss.lookup a) q2 hc;obtain ⟨fi,hf⟩:=wpF_fn q2;exact ⟨kept_fn hT hf I2.st.in,toV (x.trans y) (callK (hF q2 (hA.less (by exact Nat.le_succ _)) I2.st I2.S d2))⟩
    | loc i =>
     obtain ⟨c,ho,q2⟩:=zN q2;obtain ⟨v,ec,q2⟩:=oneW_of q2;rw [ec] at d2;have ho:σ2[i]?=some (.clo c.1 c.2.1 c.2.2.1 c.2.2.2.1 c.2.2.2.2):=xQ ho fun _ e k=>e.trans (congrArg some (oClo_of k));exact ⟨clo_kept (prog:=prog) I2.S ho dg2,toV (x.trans y) (callR (clo_ok hEp hA I2.st I2.S ho q2 dg2 d2))⟩
    | bi i=>exact ⟨kept_bi (.inl ⟨i,rfl⟩) dg2,toV (x.trans y) (callB_ok hA' I2.st I2.S q2 dg2 d2)⟩
    | ty i=>exact ⟨kept_bi (.inr ⟨i,rfl⟩) dg2,toV (x.trans y) (callB_ok hA' I2.st I2.S q2 dg2 d2)⟩
    | _=>exact (by simp only [callQ] at q2)
   | some q0 =>
    have h:=jF (o:=asAttr f) h hf;rw [asAttr_of hf];obtain ⟨o,x,ap⟩:=q0;obtain ⟨h1,h2⟩:=yE h;simp only [Bool.and_eq_true] at h1;obtain ⟨⟨h1a,h1b⟩,h1c⟩:=h1;obtain ⟨hlen,hstar⟩:=args_len h1b;rw [arm_eval_Call,attrBase_ok h1a];refine PV.go I (hE h2 hA' I) fun own' ρ' a σ' va s' x' I' da q=>?_;refine wpAny_bind (wpAny_standAt ?_);unfold methodCall;have few:methodCallForm (args.length+([]:List Keyword).length) (backTo p (starEach args env)) (backToKw p (keywordEach [] env))=true:=by
     unfold methodCallForm;have:(backTo p (starEach args env)).all (fun x=>!x.1)=true:=by
      have:=qS (env:=env) (pos:=p) hstar;rw [List.any_eq_false] at this;rw [List.all_eq_true];intro y hy;simpa using this y hy
     rw [this];show (true&&true&&decide (args.length+0+0 < 30))=true
     simp;lia
    rw [few];have posS:∀ {s'':Shared} (pl:Pos->Sem Value),wpAny (model prog w) A (pl p) (PV w own L ρ m s Q) noE s''->wpAny (model prog w) A (methodCallPos true o env ap p >>= pl) (PV w own L ρ m s Q) noE s'':=fun pl hq=>by
     unfold methodCallPos;rw [h1c];simp only [Bool.not_true,Bool.false_or,if_true];exact wpAny_bind (wpAny_pure hq)
    cases hf:methOf T σ' a x with
    | some f =>
     have q:=jF (o:=methOf T σ' a x) q hf;refine wpAny_bind (wpAny_holding (wpAny_mono (up<|meth_ok hC0 I'.st.in I'.S hf da) (fun q2 s2 zz0=>?_) fun _ _ x=>x));obtain ⟨e2,g2⟩:=zz0;subst e2;have I2:=I'.grow g2;refine posS _ ?_;refine qD (qS hstar) (wpAny_mono (hEs q hA' I2 p) (fun vs s3 zz0=>?_) fun _ _ x=>x);obtain ⟨o3,r3,cs,σ3,y,S3,d3,q3⟩:=zz0;have I3:=I2.next y S3;obtain ⟨fi,hfi⟩:=wpF_fn q3;have xx:=(x'.trans (g2.step _ _ _)).trans y;exact ⟨kept_fn hT hfi I3.st.in,toV xx (callK (hF q3 (hA.less (by exact Nat.le_succ _)) I3.st I3.S (DenL.cons (I2.den y (da.grow g2.keep)) d3)))⟩
    | none =>
     obtain ⟨id,hid,q⟩:=zN (jG (o:=methOf T σ' a x) q hf);refine wpAny_bind (wpAny_holding (wpAny_mono (up<|mbId_ok I'.S hid da) (fun q2 s2 zz0=>?_) fun _ _ x=>x));obtain ⟨e2,g2⟩:=zz0;subst e2;have I2:=I'.grow g2;refine posS _ ?_;refine qD (qS hstar) (wpAny_mono (hEs q hA' I2 p) (fun vs s3 zz0=>?_) fun _ _ x=>x);obtain ⟨o3,r3,cs,σ3,y,S3,d3,q3⟩:=zz0;have I3:=I2.next y S3;have xx:=(x'.trans (g2.step _ _ _)).trans y;exact ⟨⟨.machine,.now⟩,toV xx (methB_ok hA' I3.st I3.S q3 (I2.den y (da.grow g2.keep)) d3)⟩
 | Attribute v x p =>
  obtain ⟨h1,h2⟩:=yE (show yX (notSuper v)<|wpE T n F v m σ fun a σ1=>yB (attrOf σ1 T a x) fun u=>Q u σ1 from h);rw [arm_eval_Attribute,attrBase_ok h1];refine PV.go I (hE h2 hA' I) fun own' ρ' a σ' va s' x' I' da q=>?_;obtain ⟨u,hu,q⟩:=zN q;refine wpAny_bind (wpAny_standAt (wpAny_bind (wpAny_holding (wpAny_mono (up<|attr_ok hC0 I'.st.in I'.S hu da) (fun r s2 z=>?_) fun _ _ x=>x))));exact wpAny_bind (up<|wpAny_letTemporaryGo (wpAny_pure ((PV.here I' z.1 z.2 q).step x')))
 | Subscript v i p =>
  cases hs:asSli i with
  | some q0 =>
   have h:=jF (o:=asSli i) h hs;rw [asSli_of hs];refine sub_ok ?_;refine wpAny_mono (hE h hA' I) (fun va s1 zz0=>?_) fun _ _ x=>x;obtain ⟨o1,r1,a,σ1,x1,S1,d1,q1⟩:=zz0;have I1:=I.next x1 S1;rw [arm_eval_Slice];refine PV.go I1 (hO q1 hA' I1) fun o2 r2 l σ2 vl s2 x2 I2 d2 q2=>?_;refine PV.go I2 (wpAny_holding (hO q2 hA' I2)) fun o3 r3 h3 σ3 vh s3 x3 I3 d3 q3=>?_;refine PV.go I3 (wpAny_holding (hO q3 hA' I3)) fun o4 r4 c4 σ4 vs s4 x4 I4 d4 q4=>?_;refine up<|wpAny_newObj_type ?_ (by size_fits)
   have gr:Grow s4 { s4 with heap:=s4.heap.push (sliceOf vl vh vs) }:=Grow.push s4 _ s4.toks;have I5:=I4.grow gr;have k:=fun b o e=>gr.keep b o e;have e2:=I2.den x3 d2;have e3:=I3.den x4 e2;have eh:=I3.den x4 d3;have ea:=I3.den x4 (I2.den x3 (I1.den x2 d1));exact toV ((((x1.trans x2).trans x3).trans x4).trans (gr.step _ _ _)) (up<|sliceP_ok hA' I5.S (sliceQ_P q4) (ea.grow k) (e3.grow k) (eh.grow k) (d4.grow k) (Heap.get?_push_size _ rfl))
  | none =>
   have hi:=isSli_no hs;have h:=jG (o:=asSli i) h hs;refine sub_ok ?_;refine wpAny_mono (hE h hA' I) (fun va s1 zz0=>?_) fun _ _ x=>x;obtain ⟨o1,r1,a,σ1,x1,S1,d1,q1⟩:=zz0;have I1:=I.next x1 S1;refine wpAny_mono (hE q1 hA' I1) (fun vi s2 zz0=>?_) fun _ _ x=>x;obtain ⟨o2,r2,b,σ2,x2,S2,d2,q2⟩:=zz0;have I2:=I1.next x2 S2;exact wpAny_mono (up<|subP_ok (Q:=fun c=>Q c σ2) hA' I2.st I2.S (subP_mono (fun _ q=>viewP_of q) (subQ_P q2)) (I1.den x2 d1) d2 hi) (fun u s3 z=>(PV.ofPG I2 z).step (x1.trans x2)) fun _ _ x=>x
 | List es p =>
  rw [arm_eval_List];refine wpAny_bind (wpAny_standAt ?_);refine PL.go I (hEs (show wpEs T n F es m σ fun vs σ1=>yX (Nat.blt vs.length 100) (newList (T.owned.contains p.line) vs σ1 Q) from h) hA' I p) fun o1 r1 cs σ1 vs s1 x1 I1 d1 q1=>?_;obtain ⟨h1,q1⟩:=yE q1;have hl:vs.length<=sizeLine:=by
   have:cs.length < 100:=Nat.le_of_ble_eq_true h1;rw [d1.length,sizeLine_eq];lia
  exact toV x1 (newList_ok I1 q1 d1 hl)
 | Tuple es k p =>
  rw [arm_eval_Tuple];refine wpAny_bind (wpAny_standAt ?_);refine PL.go I (hEs (show wpEs T n F es m σ fun vs σ1=>yX (Nat.blt vs.length 100) (Q (.tup vs) σ1) from h) hA' I p) fun o1 r1 cs σ1 vs s1 x1 I1 d1 q1=>?_;obtain ⟨h1,q1⟩:=yE q1;have hl:vs.length<=sizeLine:=by
   have:cs.length < 100:=Nat.le_of_ble_eq_true h1;rw [d1.length,sizeLine_eq];omega
  refine up<|wpAny_newObj_type ?_ (by show vs.toArray.size<=sizeLine;rw [List.size_toArray];exact hl)
  refine (frz (t:=s1.toks) I1 (c:=.tup cs) ⟨_,vs.toArray,0,rfl,fresh_not I1,Heap.get?_push_size _ rfl,?_⟩ q1).step x1;exact d1.grow fun _ _ e=>Heap.get?_push_of_some _ e
 | Dict ks es p=>exact hDi h hA I
 | Lambda ps body sc p=>exact lam_ok h I
 | ListComp elt gens sc p =>
  obtain ⟨t,it,eg,h⟩:=genW_of h;rw [eg];exact hCm h hA I
 | _=>exact h.elim
end
end Mine
end
section
namespace Mine
section
variable{prog:Program}{w:World}{K:Frag}{mb:Str->Option Value}{A:Around}{own ρ:List Addr}{L:Addr}{m:Loc}{σ:List O}{s:Shared}{R n:Nat}{T:Tabs}{F:Fra}{env:Env}
theorem jX{x:Str}{c:V}{v:Value}{P:Unit->Shared->Prop}(I:In w K mb env F own L ρ m σ s)(hx:F.names.lookup x=some .local)(d:Den w own ρ s.heap c v)
  (h:∀ s',Step own L ρ s own ρ s'->In w K mb env F own L ρ (updL m x c) σ s'->P () s'):wpAny (model prog w) A (storeName env x v) P noE s:=by
 obtain ⟨mm,hn,hm⟩:=I.S.fr;refine up<|wpAny_storeName_local (by rw [I.E.kindOf,hx]) (by rw [I.E.locals];exact hn) (fun h' hn' hs'=>?_) (by rw [I.E.kind];rfl)
 rw [I.E.locals] at hn' hs';have x:=Step.store (own:=own) (ρ:=ρ) (t:=s.toks+1) hs';exact h _ x (I.next x (I.S.store hm hn' hs' d))
theorem storeC_ok{x:Str}{i:Nat}{o:Option V}{c:V}{v:Value}{P:Unit->Shared->Prop}(I:In w K mb env F own L ρ m σ s)(hx:F.names.lookup x=some .cell)(hi:F.cells.lookup x=some i)(hv:σ[i]?.bind oCel=some o)(d:Den w own ρ s.heap c v)
  (h:∀ s',Step own L ρ s own ρ s'->In w K mb env F own L ρ m (σ.set i (.cell (some c))) s'->P () s'):wpAny (model prog w) A (storeName env x v) P noE s:=by
 refine xQ hv fun v0 hv k=>?_;rw [oCel_of k] at hv;obtain ⟨ca,h1,h2⟩:=I.E.cells x i hi;obtain ⟨o',g,dd⟩:=I.S.objs i _ ca hv h2;have hc:∃ u,s.heap.IsCell ca u:=by
  induction o using Option.casesOn with
  | none=>exact ⟨none,o',g,dd⟩
  | some c0=>obtain ⟨u,h3,_⟩:=dd;exact ⟨_,o',g,h3⟩
 obtain ⟨u,hc⟩:=hc;refine up<|wpAny_storeName_cell I.E.kind (by rw [I.E.kindOf,hx]) h1 hc fun h' hv' hs'=>?_
 obtain ⟨o',g',hd'⟩:=hv';have x':=Step.upd (own:=own) (L:=L) (s:=s) (t:=s.toks) h2 hs';have dc0:ODen w own ρ s.heap (.cell (some c)) o':=⟨v,hd',d⟩
 exact h _ x' (I.next x' (I.S.upd h2 hs' g' dc0))
theorem names_ok:∀ {bs:List (Str×V)} {vs:List Value} {own ρ:List Addr} {m:Loc} {s:Shared} {P:Unit->Shared->Prop},In w K mb env F own L ρ m σ s->xO F bs=true->DenL w own ρ s.heap (bs.map (·.2)) vs ->
  (∀ s',Step own L ρ s own ρ s'->In w K mb env F own L ρ (xN m bs) σ s'->P () s')->wpAny (model prog w) A (assignInOrder (bs.map fun p=>bindName env p.1) vs) P noE s:=by
 intro zv;induction zv with
 | nil =>
  intro vs own ρ m s P I _ d h;refine rwp (show vs=[] from d) ?_;exact wpAny_pure (h s (Step.refl _ _ _ _) I)
 | cons zp bs ih =>
  intro vs own ρ m s P I hl d h;obtain ⟨x,c⟩:=zp;obtain ⟨v,vs',rfl,d1,d2⟩:=d;have hl':((F.names.lookup x==some .local)&&xO F bs)=true:=by simpa [xO] using hl
  obtain ⟨h1,h2⟩:=Bool.and_eq_true_iff.mp hl';show wpAny _ A (do holding vs' (bindName env x v);assignInOrder (bs.map fun p=>bindName env p.1) vs') _ _ _
  refine wpAny_bind (wpAny_holding (wpAny_bindName (jX I (by simpa using h1) d1 fun s1 x1 I1=>?_)));exact ih I1 h2 (I.denL x1 d2) fun s2 x2 I2=>h s2 (x1.trans x2) I2
theorem assignEach_len:∀ {ts:List Expr},(assignEach ts env).length=ts.length:=by
 intro zv;induction zv with
 | nil =>
  exact rfl
 | cons t ts ih =>
  have:∃ x,assignEach (t::ts) env=x::assignEach ts env:=by induction t using PySem.Expr.casesOn <;> exact ⟨_,rfl⟩
  obtain ⟨x,hx⟩:=this;rw [hx,List.length_cons,List.length_cons,ih]
theorem assignEach_star:∀ {ts:List Expr},ts.all kW=true->(assignEach ts env).findIdx? (·.1)=none:=by
 intro zv;induction zv with
 | nil =>
  intro _;exact rfl
 | cons t ts ih =>
  intro h;obtain ⟨a,b⟩:=Bool.and_eq_true_iff.mp (List.all_cons ▸ h);have:assignEach (t::ts) env=(false,assign t env)::assignEach ts env:=by induction t using PySem.Expr.casesOn <;> first | rfl | cases a
  refine rwp this ?_;refine rwp List.findIdx?_cons ?_;simp [ih b]
theorem G_ok(hC0:∀ c ci,T.clss.lookup c=some ci->ClsOk K c ci)(hE:qQ prog w K mb R T n)(hGs:SndGs prog w K mb R T n):SndG prog w K mb R T (n+1):=by
 intro F t c m σ Q A env own L ρ s v h hA I d;have hA':AOk (R+n / 2+1) A:=hA.less (by lia);induction t using PySem.Expr.casesOn with
 | Name x p =>
  refine kA ?_;obtain ⟨k,hx,h⟩:=zN h;induction k using PySem.NameKind.casesOn with
  | «local»=>exact jX I hx d fun s' x' I'=>⟨own,ρ,_,σ,x',I'.S,h⟩
  | cell =>
   obtain ⟨i,hi,h⟩:=zN h;obtain ⟨o,hv,h⟩:=zN h;exact storeC_ok I hx hi hv d fun s' x' I'=>⟨own,ρ,m,_,x',I'.S,h⟩
  | _=>exact h.elim
 | Tuple ts k p =>
  rw [arm_assign_Tuple];obtain ⟨vs,ec,h⟩:=zN h;rw [xG ec] at d;obtain ⟨h1,h2⟩:=yE (show yX (vs.length==ts.length&&ts.all kW) (wpGs T n F ts vs m σ Q) from h);obtain ⟨h3,h4⟩:=Bool.and_eq_true_iff.mp h1;refine wpAny_bind (wpAny_standAt ?_);unfold unpack;refine rwp assignEach_len ?_;refine rwp (assignEach_star h4) ?_;refine wpAny_bind (wpAny_holding (wpAny_mono (up<|unpack_ok hA' I.S (by simpa using h3) d) (fun l s' zz0=>?_) fun _ _ x=>x));obtain ⟨g,d'⟩:=zz0;exact toU (g.step _ _ _) (hGs h2 hA' (I.grow g) d')
 | Attribute o x p =>
  rw [arm_assign_Attribute];refine PV.go I (wpAny_holding (hE (show wpE T n F o m σ fun a σ1=>setAttrQ σ1 T a x c fun σ2=>Q m σ2 from h) hA' I)) fun o1 r1 a σ1 va s1 x1 I1 d1 q1=>?_;refine wpAny_bind (wpAny_standAt (wpAny_bind (wpAny_holding (wpAny_mono (up<|setAttr_ok hC0 hA' I1.st.in I1.S (setAttrQ_P q1) d1 (I.den x1 d)) (fun _ s2 zz0=>?_) fun _ _ x=>x))));obtain ⟨o2,r2,m2,σ2,x2,S2,e2,q2⟩:=zz0;subst e2;exact wpAny_release ⟨o2,r2,_,σ2,x1.trans x2,S2,q2⟩
 | Subscript o i p =>
  rw [arm_assign_Subscript];refine PV.go I (wpAny_holding (hE (show wpE T n F o m σ fun a σ1=>wpE T n F i m σ1 fun b σ2=>setItemQ σ2 a b c fun σ3=>Q m σ3 from h) hA' I)) fun o1 r1 a σ1 va s1 x1 I1 d1 q1=>?_;refine PV.go I1 (wpAny_holding (hE q1 hA' I1)) fun o2 r2 b σ2 vb s2 x2 I2 d2 q2=>?_;refine wpAny_bind (wpAny_standAt (wpAny_bind (wpAny_holding (wpAny_mono (up<|setItem_ok hA' I2.S (setItemQ_P q2) (I1.den x2 d1) d2 (I1.den x2 (I.den x1 d))) (fun _ s3 zz0=>?_) fun _ _ x=>x))));obtain ⟨o3,r3,m3,σ3,x3,S3,e3,q3⟩:=zz0;subst e3;exact wpAny_release ⟨o3,r3,_,σ3,(x1.trans x2).trans x3,S3,q3⟩
 | _=>exact h.elim
theorem Gs_ok(hG:SndG prog w K mb R T n)(hGs:SndGs prog w K mb R T n):SndGs prog w K mb R T (n+1):=by
 intro F ts cs m σ Q A env own L ρ s vs h hA I d;have hA':AOk (R+n / 2+1) A:=hA.less (by lia);induction ts using List.casesOn with
 | nil =>
  induction vs using List.casesOn <;> exact wpAny_pure ⟨own,ρ,m,σ,Step.refl _ _ _ _,I.S,h⟩
 | cons t ts =>
  ·obtain ⟨c,cs,ec,h⟩:=consW_of h;rw [ec] at d;obtain ⟨v,vs',ev,d1,d2⟩:=d;refine rwp ev ?_;have h:wpG T n F t c m σ fun m1 σ1=>wpGs T n F ts cs m1 σ1 Q:=h;have he:(assignEach (t::ts) env).map (·.2)=assign t env::(assignEach ts env).map (·.2):=by
    induction t using PySem.Expr.casesOn <;> first | rfl | (induction n using Nat.casesAuxOn <;> exact h.elim)
   refine rwp he ?_;show wpAny _ A (do holding vs' (assign t env v);assignInOrder ((assignEach ts env).map (·.2)) vs') _ _ _
   refine wpAny_bind (wpAny_holding (wpAny_mono (hG h hA' I d1) (fun _ s1 zz0=>?_) fun _ _ x=>x));obtain ⟨o1,r1,m1,σ1,x1,S1,q1⟩:=zz0;exact toU x1 (hGs q1 hA' (I.next x1 S1) (I.denL x1 d2))
theorem swaps_ok{t e:Expr}{line:Nat}(h:notComp e=true):swapsWithSole [t] e line env=pure false:=by
 induction e using PySem.Expr.casesOn <;> first | rfl | cases h
theorem swapsN_ok{e:Expr}{line:Nat}(h:notComp e=true):swapsWith e none line env=pure false:=by
 induction e using PySem.Expr.casesOn <;> first | rfl | cases h
noncomputable def jP(env:Env)(line:Nat)(ts:List Expr):List Str:=ts.filterMap fun
  | .Name id pos=>if env.kindOf id==some .local&&pos.line==line then some id else none
  | _=>none
theorem swpNames_eq(E:EnvOk K env F L ρ)(line:Nat)(ts:List Expr):jP env line ts=qK F line ts:=by
 unfold jP qK;congr 1
 funext x
 induction x using PySem.Expr.casesOn <;> first | rfl | (simp only [E.kindOf])
theorem swp_ok{t e:Expr}{r:Option (List Str)}(E:EnvOk K env F L ρ)(h:swpOf F t e=some r):swappedStores [t] e env=pure r:=by
 have hb:env.blockKind=.function:=by unfold Env.blockKind;rw [E.kind];rfl
 have tt:∀ ts k p vs k' p',swpOf F (.Tuple ts k p) (.Tuple vs k' p')=some r->swappedStores [.Tuple ts k p] (.Tuple vs k' p') env=pure r:=fun ts k p vs k' p' h=>by
  unfold swpOf at h;dsimp only at h;show (if (!(ts.length==2||ts.length==3)||vs.length != ts.length||env.blockKind != .function)=true then (pure none:Sem (Option (List Str)))
   else if (vs.any fun | .Starred ..=>true | _=>false)=true then pure none
   else if ((jP env ((ts.head?.map (·.pos.line)).getD 0) ts).length != ts.length||(jP env ((ts.head?.map (·.pos.line)).getD 0) ts).eraseDups.length != (jP env ((ts.head?.map (·.pos.line)).getD 0) ts).length)=true then pure none
   else if vs.all (foldedForSure 8)=true then pure none
   else if vs.all (constantsAlone 8)=true then (unsupported "assign.tuple-of-constant-expressions:order-of-the-stores" >>= fun _=>pure (some (jP env ((ts.head?.map (·.pos.line)).getD 0) ts)))
   else pure (some (jP env ((ts.head?.map (·.pos.line)).getD 0) ts)))=pure r
  rw [swpNames_eq E,hb];simp only [bne_self_eq_false,Bool.or_false];split at h
  ·rename_i c1
   cases h;rw [if_pos c1]
  ·rename_i c1
   rw [if_neg c1];split at h
   ·rename_i c2;cases h;exact if_pos c2
   ·rename_i c2
    refine (if_neg c2).trans ?_;split at h
    ·rename_i c3;cases h;rw [if_pos c3]
    ·rename_i c3
     rw [if_neg c3];split at h
     ·rename_i c4;cases h;rw [if_pos c4]
     ·rename_i c4
      rw [if_neg c4];split at h
      ·cases h
      ·rename_i c5
       cases h;rw [if_neg c5]
 have nn:∀ {x:Sem (Option (List Str))},(some none:Option (Option (List Str)))=some r->x=pure none->x=pure r:=fun a b=>Option.some.inj a ▸ b;induction t using PySem.Expr.casesOn with
 | Tuple ts k p =>
  induction e using PySem.Expr.casesOn with
  | Tuple vs k' p'=>exact tt _ _ _ _ _ _ h
  | _=>exact nn h rfl
 | List=>exact nomatch (show none=some r from h)
 | _=>exact nn h rfl
theorem whileI_ok{t:Expr}{b:List Stmt}{Inv:Nat->Loc->List O->Prop}{Q:Fl->Loc->List O->Prop}(hT:SndT prog w K mb R T n)(hSs:SndSs prog w K mb R T n)
  (h0:∃ k,Inv k m σ) (h:∀ k m σ,Inv k m σ->wpT T n F t m σ fun c σ1=>ifB c (zI T n F b m σ1 fun fl m2 σ2=>match fl with
     | .next=>∃ k',k' < k/\Inv k' m2 σ2
     | .cont=>∃ k',k' < k/\Inv k' m2 σ2
     | .brk=>Q .next m2 σ2
     | .ret v=>Q (.ret v) m2 σ2) (Q .next m σ1)) (hA:AOk (R+n / 2+1) A) (I:In w K mb env F own L ρ m σ s) {E':Value->Shared->Prop} :
  codeAny (model prog w) A (.whileLoop t b [] env) (fun r s'=>match r with | .ok f=>PF w own L ρ s Q f s' | .error e=>E' e s') s:=by
 obtain ⟨k,hk⟩:=h0;refine codeAny_whileLoop (fun k s'=>∃ o1 r1 m1 σ1,Step own L ρ s o1 r1 s'/\In w K mb env F o1 L r1 m1 σ1 s'/\Inv k m1 σ1) (fun k s1 zz0=>?_) k ⟨own,ρ,m,σ,Step.refl _ _ _ _,I,hk⟩;obtain ⟨o1,r1,m1,σ1,x1,I1,hi⟩:=zz0;refine wpAny_mono (hT (h k m1 σ1 hi) hA I1) (fun c s2 zz0=>?_) fun _ _ z=>z.elim;obtain ⟨o2,r2,σ2,x2,S2,q2⟩:=zz0;have I2:=I1.next x2 S2;induction c using Bool.casesOn with
 | false=>exact wpAny_pure ⟨o2,r2,.next,m1,σ2,x1.trans x2,S2,rfl,q2⟩
 | true =>
  refine wpAny_mono (hSs (show zI T n F b m1 σ2 _ from q2) (hA.less (by exact Nat.le_succ _)) I2) (fun f s3 zz0=>?_) fun _ _ z=>z.elim;obtain ⟨o3,r3,fl,m3,σ3,x3,S3,d3,q3⟩:=zz0;have I3:=I2.next x3 S3;have xx:=(x1.trans x2).trans x3;induction fl using Mine.Fl.casesOn with
  | next=>refine rwp (show f=.next from d3) ?_;obtain ⟨k',hk',q⟩:=q3;exact ⟨k',hk',o3,r3,m3,σ3,xx,I3,q⟩
  | cont=>refine rwp (show f=.cont from d3) ?_;obtain ⟨k',hk',q⟩:=q3;exact ⟨k',hk',o3,r3,m3,σ3,xx,I3,q⟩
  | brk=>refine rwp (show f=.brk from d3) ?_;exact ⟨o3,r3,.next,m3,σ3,xx,S3,rfl,q3⟩
  | ret c=>obtain ⟨v,e,d⟩:=d3;refine rwp e ?_;exact ⟨o3,r3,.ret c,m3,σ3,xx,S3,⟨v,rfl,d⟩,q3⟩
theorem whileU_ok{t:Expr}{b:List Stmt}{Q:Fl->Loc->List O->Prop}(hT:∀ k,k < n->SndT prog w K mb R T k)(hSs:∀ k,k < n->SndSs prog w K mb R T k)
  (h:wpW T n F t b m σ Q) (hA:AOk (R+n / 2+1) A) (I:In w K mb env F own L ρ m σ s) {E':Value->Shared->Prop} :
  codeAny (model prog w) A (.whileLoop t b [] env) (fun r s'=>match r with | .ok f=>PF w own L ρ s Q f s' | .error e=>E' e s') s:=by
 refine codeAny_whileLoop (fun k s'=>k<=n/\∃ o1 r1 m1 σ1,Step own L ρ s o1 r1 s'/\In w K mb env F o1 L r1 m1 σ1 s'/\wpW T k F t b m1 σ1 Q) (fun k s1 zz0=>?_) n ⟨Nat.le_refl _,own,ρ,m,σ,Step.refl _ _ _ _,I,h⟩;obtain ⟨hkn,o1,r1,m1,σ1,x1,I1,hi⟩:=zz0;induction k using Nat.casesAuxOn with
 | zero=>exact hi.elim
 | succ k =>
  have hA':AOk (R+k / 2+1) A:=hA.less (by lia);have hi:wpT T k F t m1 σ1 fun c σ2=>ifB c (zI T k F b m1 σ2 fun fl m2 σ2=>match fl with
   | .next=>wpW T k F t b m2 σ2 Q
   | .cont=>wpW T k F t b m2 σ2 Q
   | .brk=>Q .next m2 σ2
   | .ret v=>Q (.ret v) m2 σ2) (Q .next m1 σ2):=hi
  refine wpAny_mono (hT k hkn hi hA' I1) (fun c s2 zz0=>?_) fun _ _ z=>z.elim;obtain ⟨o2,r2,σ2,x2,S2,q2⟩:=zz0;have I2:=I1.next x2 S2;induction c using Bool.casesOn with
  | false=>exact wpAny_pure ⟨o2,r2,.next,m1,σ2,x1.trans x2,S2,rfl,q2⟩
  | true =>
   refine wpAny_mono (hSs k hkn (show zI T k F b m1 σ2 _ from q2) (hA'.less (by exact Nat.le_succ _)) I2) (fun f s3 zz0=>?_) fun _ _ z=>z.elim;obtain ⟨o3,r3,fl,m3,σ3,x3,S3,d3,q3⟩:=zz0;have I3:=I2.next x3 S3;have xx:=(x1.trans x2).trans x3;induction fl using Mine.Fl.casesOn with
   | next=>refine rwp (show f=.next from d3) ?_;exact ⟨k,Nat.lt_succ_self _,by exact Nat.le_of_succ_le (by assumption),o3,r3,m3,σ3,xx,I3,q3⟩
   | cont=>refine rwp (show f=.cont from d3) ?_;exact ⟨k,Nat.lt_succ_self _,by lia,o3,r3,m3,σ3,xx,I3,q3⟩
   | brk=>refine rwp (show f=.brk from d3) ?_;exact ⟨o3,r3,.next,m3,σ3,xx,S3,rfl,q3⟩
   | ret c=>obtain ⟨v,e,d⟩:=d3;refine rwp e ?_;exact ⟨o3,r3,.ret c,m3,σ3,xx,S3,⟨v,rfl,d⟩,q3⟩
noncomputable abbrev SndFor(prog:Program)(w:World)(K:Frag)(mb:Str->Option Value)(R:Nat)(T:Tabs)(n:Nat):Prop :=
 ∀ {F t it b p m σ Q A env own L ρ s},wpS T (n+1) F (.For t it b [] p) m σ Q->AOk (R+(n+1+1) / 2) A->In w K mb env F own L ρ m σ s->wpAny (model prog w) A (exec (.For t it b [] p) env) (PF w own L ρ s Q) noE s
noncomputable abbrev SndAs(prog:Program)(w:World)(K:Frag)(mb:Str->Option Value)(R:Nat)(T:Tabs)(n:Nat):Prop :=
 ∀ {F t e y p m σ Q A env own L ρ s},compAsg F t e=some y->wpE T n F e m σ (fun v σ1=>Q .next (updL m y v) σ1)->AOk (R+n / 2+1) A->In w K mb env F own L ρ m σ s->wpAny (model prog w) A (exec (.Assign [t] e p) env) (PF w own L ρ s Q) noE s
theorem S_ok(hTb:TabsOk prog w K mb R T)(hE:qQ prog w K mb R T n)(hTt:∀ k,k<=n->SndT prog w K mb R T k)(hG:SndG prog w K mb R T n)(hSs:∀ k,k<=n->SndSs prog w K mb R T k)(hFor:SndFor prog w K mb R T n)(hAs:SndAs prog w K mb R T n):SndS prog w K mb R T (n+1):=by
 intro F st m σ Q A env own L ρ s h hA I;have hA':AOk (R+n / 2+1) A:=hA.less (by simp +arith [*]);induction st using PySem.Stmt.casesOn with
 | Assign ts e p =>
  obtain ⟨t,et,h⟩:=oneW_of h;refine rwp et ?_;cases hca:compAsg F t e with
  | some y=>exact hAs hca (jF (o:=compAsg F t e) h hca) hA' I
  | none =>
  obtain ⟨h1,h2⟩:=yE (jG (o:=compAsg F t e) h hca);rw [exec_Assign_arm];refine wpAny_bind (wpAny_standAt ?_);refine rwp (swaps_ok h1) ?_;refine wpAny_bind (wpAny_pure ?_);refine rwp (if_neg (by decide)) ?_;refine PV.go I (hE h2 hA' I) fun o1 r1 c σ1 v s1 x1 I1 d1 q1=>?_;obtain ⟨o,hs,q1⟩:=zN q1;induction o using Option.casesOn with
  | none =>
   refine rwp (swp_ok I1.E hs) ?_;refine wpAny_bind (wpAny_pure ?_);have he:(assignEach [t] env).map (·.2)=[assign t env]:=by induction t using PySem.Expr.casesOn <;> first | rfl | (induction n using Nat.casesAuxOn <;> exact q1.elim)
   refine rwp he ?_;show wpAny _ A (do assignAll v [assign t env];pure Flow.next) _ _ _
   refine wpAny_bind (wpAny_mono (hG q1 hA' I1 d1) (fun _ s2 ⟨o2,r2,m2,σ2,x2,S2,q2⟩=>wpAny_pure ?_) fun _ _ x=>x);exact ⟨o2,r2,.next,m2,σ2,x1.trans x2,S2,rfl,q2⟩
  | some ns =>
   refine rwp (swp_ok I1.E hs) ?_;refine wpAny_bind (wpAny_pure ?_);obtain ⟨vs,ec,q1⟩:=zN q1;rw [xG ec] at d1;obtain ⟨h3,q1⟩:=yE q1;obtain ⟨h4,h5⟩:=Bool.and_eq_true_iff.mp h3;have h4:vs.length=ns.length:=by simpa using h4
   show wpAny _ A (do rule "assign.swapped-stores";let items <- unpackItems v ns.length none;assignInOrder (ns.reverse.map fun n=>bindName env n) items.reverse;pure Flow.next) _ _ _
   refine wpAny_bind (wpAny_rule (wpAny_bind (wpAny_mono (up<|unpack_ok hA' I1.S h4 d1) (fun l s2 zz0=>?_) fun _ _ x=>x)));obtain ⟨g2,d2⟩:=zz0;have I2:=I1.grow g2;have e1:(ns.reverse.zip vs.reverse).map (fun p=>bindName env p.1)=ns.reverse.map fun n=>bindName env n:=by
    refine rwp (show (fun (p:Str×V)=>bindName env p.1)=(fun n=>bindName env n) ∘ Prod.fst from rfl) ?_;refine rwp List.map_map.symm ?_;rw [List.map_fst_zip];simp [h4]
   have e2:(ns.reverse.zip vs.reverse).map (·.2)=vs.reverse:=by rw [List.map_snd_zip];simp [h4]
   refine rwp e1.symm ?_;refine wpAny_bind (names_ok I2 h5 (by refine rwp e2 ?_;exact DenL.reverse d2) fun s3 x3 I3=>wpAny_pure ?_);exact ⟨o1,r1,.next,_,σ1,(x1.trans (g2.step _ _ _)).trans x3,I3.S,rfl,q1⟩
 | AugAssign t op e p =>
  obtain ⟨x,et,h⟩:=zN h;obtain ⟨np,et⟩:=qP et;refine rwp et ?_;induction op using PySem.Operator.casesOn with
  | Add =>
  obtain ⟨h1,h2⟩:=yE (show yX (F.names.lookup x==some .local)<|nameP T F m σ x fun a=>wpE T n F e m σ fun b σ1=>yB (zL a) fun i=>yB (zL b) fun j=>Q .next (updL m x (.int (i+j))) σ1 from h);rw [exec_AugAssign_Name];refine wpAny_bind (wpAny_standAt (wpAny_bind (wpAny_mono (name_ok hTb h2 I) (fun va s1 zz0=>?_) fun _ _ x=>x)));obtain ⟨a,g1,d1,q1⟩:=zz0;have I1:=I.grow g1;refine PV.go I1 (wpAny_holding (hE q1 hA' I1)) fun o2 r2 b σ2 vb s2 x2 I2 d2 q2=>?_;have d1':=I1.den x2 d1;obtain ⟨i1,ea,q2⟩:=zN q2;obtain ⟨i2,eb,q2⟩:=zN q2;rw [zJ ea] at d1';rw [zJ eb] at d2;obtain ⟨t1,e1⟩:=d1';obtain ⟨t2,e2⟩:=d2;refine rwp e1 ?_;refine rwp e2 ?_;refine wpAny_bind (wpAny_standAt (wpAny_bind (wpAny_operateT (up<|iadd_ok ?_))));have g3:=Grow.tok s2 (s2.toks+1);have I3:=I2.grow g3;refine wpAny_bind (wpAny_standAt (wpAny_bind (wpAny_bindName (jX I3 (by simpa using h1) (c:=.int (_+_)) ⟨_,rfl⟩ fun s4 x4 I4=>wpAny_pure ?_))));exact ⟨o2,r2,.next,_,σ2,((((g1.step _ _ _).trans x2).trans (g3.step _ _ _)).trans x4),I4.S,rfl,q2⟩
  | _=>exact h.elim
 | Expr e p =>
  obtain ⟨h1,h2⟩:=yE (show yX (notComp e)<|wpE T n F e m σ fun v σ1=>yX (isNone v) (Q .next m σ1) from h);refine wpAny_mono (wpAny_Expr (Q:=PF w own L ρ s Q) (E:=noE) (wpAny_mono (hE h2 hA' I) (fun v s1 ⟨o1,r1,c,σ1,x1,S1,d1,q1⟩=>?_) fun _ _ x=>x) ?_ ?_) (fun _ _ x=>x) fun _ _ x=>x
  ·obtain ⟨ec,q1⟩:=yE q1;rw [xA ec] at d1;refine rwp (show v=.none from d1) ?_;exact ⟨o1,r1,.next,m,σ1,x1,S1,rfl,q1⟩
  ·unfold interactive;refine rwp I.E.kind ?_;rfl
  ·exact swapsN_ok h1
 | Return e p =>
  induction e using Option.casesOn with
  | none=>exact wpAny_Return_none ⟨own,ρ,.ret .none,m,σ,Step.refl _ _ _ _,I.S,⟨_,rfl,rfl⟩,h⟩
  | some e =>
   refine wpAny_Return_some (wpAny_mono (hE (show wpE T n F e m σ fun v σ1=>Q (.ret v) m σ1 from h) hA' I) (fun v s1 zz0=>?_) fun _ _ x=>x);obtain ⟨o1,r1,c,σ1,x1,S1,d1,q1⟩:=zz0;exact ⟨o1,r1,.ret c,m,σ1,x1,S1,⟨v,rfl,d1⟩,q1⟩
 | If t b o p =>
  rw [exec_If];refine wpAny_bind (wpAny_standAt ?_);refine PB.go I (hTt n (Nat.le_refl _) (show wpT T n F t m σ fun c σ1=>ifB c (zI T n F b m σ1 Q) (zI T n F o m σ1 Q) from h) hA' I) fun o1 r1 σ1 c s1 x1 I1 q1=>?_;induction c using Bool.casesOn
  ·exact toF x1 (hSs n (Nat.le_refl _) (show zI T n F o m σ1 Q from q1) (hA'.less (by lia)) I1)
  ·exact toF x1 (hSs n (Nat.le_refl _) (show zI T n F b m σ1 Q from q1) (hA'.less (by lia)) I1)
 | While t b o p =>
  obtain ⟨eo,h⟩:=yE h;refine rwp (List.isEmpty_iff.mp eo) ?_;refine wpAny_While ?_;cases hu:T.unroll.contains p.line with
  | false =>
   obtain ⟨Inv,k,hk,hi⟩:=ifW_F h hu;exact whileI_ok (hTt n (Nat.le_refl _)) (hSs n (Nat.le_refl _)) ⟨k,hk⟩ hi hA' I
  | true=>exact whileU_ok (fun k hk=>hTt k (by exact Nat.le_of_succ_le (by assumption))) (fun k hk=>hSs k (by exact Nat.le_of_succ_le (by assumption))) (ifW_T h hu) hA' I
 | For t it b o p =>
  induction o using List.casesOn with
  | nil=>exact hFor h hA I
  | cons=>exact h.elim
 | Try b hs o f p =>
  obtain ⟨eo,h⟩:=yE h;have eo:=Bool.and_eq_true_iff.mp eo;refine rwp (List.isEmpty_iff.mp eo.1) ?_;refine rwp (List.isEmpty_iff.mp eo.2) ?_
  set_option backward.match.sparseCases false in have h:zI T n F b m σ fun fl m1 σ1=>match fl with | .ret v=>Q (.ret v) m1 σ1 | _=>False:=h
  show wpAny _ A (do standAt p;tryStmt false (execs b env) hs (execs [] env) [] env) _ _ _
  refine wpAny_bind (wpAny_standAt ?_);refine wpAny_bind (wpAny_attempt (wpAny_mono (hSs n (Nat.le_refl _) h (hA'.less (by lia)) I) (fun fl s1 zz0=>?_) fun _ _ x=>x.elim));obtain ⟨o1,r1,c,m1,σ1,x1,S1,d1,q1⟩:=zz0;induction c using Mine.Fl.casesOn <;> first | exact q1.elim | skip
  rename_i c
  obtain ⟨v,e,d⟩:=d1;subst e;exact wpAny_pure ⟨o1,r1,.ret c,m1,σ1,x1,S1,⟨v,rfl,d⟩,q1⟩
 | _=>exact h.elim
theorem Ss_ok(hS:SndS prog w K mb R T n)(hSs:SndSs prog w K mb R T n):SndSs prog w K mb R T (n+1):=by
 intro F ss m σ Q A env own L ρ s h hA I;have hA':AOk (R+n / 2) A:=hA.less (by lia);induction ss using List.casesOn with
 | nil=>exact wpAny_pure ⟨own,ρ,.next,m,σ,Step.refl _ _ _ _,I.S,rfl,h⟩
 | cons st r =>
  rw [execs_cons]
  set_option backward.match.sparseCases false in have h:wpS T n F st m σ fun fl m1 σ1=>match fl with
   | .next=>zI T n F r m1 σ1 Q
   | fl=>Q fl m1 σ1:=h
  refine wpAny_bind (wpAny_mono (hS h hA I) (fun f s1 zz0=>?_) fun _ _ x=>x);obtain ⟨o1,r1,fl,m1,σ1,x1,S1,d1,q1⟩:=zz0;have I1:=I.next x1 S1;induction fl using Mine.Fl.casesOn with
  | next=>refine rwp (show f=.next from d1) ?_;exact toF x1 (hSs q1 hA' I1)
  | brk=>refine rwp (show f=.brk from d1) ?_;exact wpAny_pure ⟨o1,r1,.brk,m1,σ1,x1,S1,rfl,q1⟩
  | cont=>refine rwp (show f=.cont from d1) ?_;exact wpAny_pure ⟨o1,r1,.cont,m1,σ1,x1,S1,rfl,q1⟩
  | ret c=>obtain ⟨v,e,d⟩:=d1;refine rwp e ?_;exact wpAny_pure ⟨o1,r1,.ret c,m1,σ1,x1,S1,⟨v,rfl,d⟩,q1⟩
end
end Mine
end
section
namespace Mine
section
variable{prog:Program}{w:World}{K:Frag}{mb:Str->Option Value}{A:Around}{own ρ:List Addr}{L:Addr}{m:Loc}{σ:List O}{s:Shared}{R n:Nat}{T:Tabs}{F:Fra}{env:Env}
theorem Sat.frame{h:Heap}{cls:Value}(S:Sat w own L ρ m σ h):Sat w (own++[h.objs.size]) h.objs.size ρ [] σ (h.push { cls,data:=.dict #[] }):=by
 have fresh:∀ a∈own,a≠h.objs.size:=fun a ha=>Nat.ne_of_lt (S.lt a ha);have ev:Ev own h (own++[h.objs.size]) (h.push { cls,data:=.dict #[] }):=fun a oa e n=>⟨Heap.get?_push_of_some _ e,fun q=>by
  rcases List.mem_append.mp q with q | q
  ·exact n q
  ·rw [List.mem_singleton] at q;exact Nat.ne_of_lt (Heap.lt_size e) q⟩
 refine ⟨S.len,S.nodup,fun q=>fresh _ (S.sub _ (.tail _ q)) rfl,fun a ha=>?_,fun a ha=>?_,fun i X a e1 e2=>?_,_,Heap.Ns.new h cls,fun x V e=>by cases e⟩
 ·rcases List.mem_cons.mp ha with q | q
  ·exact List.mem_append_right _ (q ▸ .head _)
  ·exact List.mem_append_left _ (S.sub _ (.tail _ q))
 ·rw [Heap.size_push];rcases List.mem_append.mp ha with q | q
  ·exact Nat.lt_succ_of_lt (S.lt a q)
  ·rw [List.mem_singleton] at q;subst q;exact Nat.lt_succ_self _
 ·obtain ⟨o,g,d⟩:=S.objs i X a e1 e2;exact ⟨o,Heap.get?_push_of_some _ g,d.mono ev (fun _ _ q=>q)⟩
noncomputable def Corr(ρ:List Addr)(cs:List (Str×Addr))(is:List (Str×Nat)):Prop:=∀ x i,is.lookup x=some i->∃ c,cs.lookup x=some c/\ρ[i]?=some c
theorem cells_ok:∀ (names:List (Str×NameKind)) {own ρ:List Addr} {m:Loc} {σ:List O} {s:Shared} {acc:List (Str×Addr)} {acc':List (Str×Nat)},Sat w own L ρ m σ s.heap->Corr ρ acc acc' ->
  ∃ own' ρ',Step own L ρ s own' ρ' { s with heap:=pushCells s.heap names }/\Sat w own' L ρ' m (σ++xE names) (pushCells s.heap names)/\Corr ρ' (cellsFrom s.heap.objs.size names acc) (cellsFrom σ.length names acc'):=by
 intro zv;induction zv with
 | nil =>
  intro own ρ m σ s acc acc' S C;exact ⟨own,ρ,Step.refl _ _ _ _,by refine rwp (show xE []=[] from rfl) ?_;rw [List.append_nil];exact S,C⟩
 | cons zp r ih =>
  intro own ρ m σ s acc acc' S C;obtain ⟨x,k⟩:=zp;unfold pushCells cellsFrom;by_cases hk:(k==NameKind.cell)=true
  ·refine rwp (if_pos hk) ?_;refine rwp (if_pos hk) ?_;refine rwp (if_pos hk) ?_;have e:xE ((x,k)::r)=.cell none::xE r:=by
    unfold xE;refine rwp List.filter_cons ?_;simp only [hk,if_true,List.map_cons]
   have S1:=S.alloc (X:=.cell none) (o:={ cls:=.type "cell",data:=.cell none }) rfl rfl;have x1:Step own L ρ s (own++[s.heap.objs.size]) (ρ++[s.heap.objs.size]) { s with heap:=s.heap.push { cls:=.type "cell",data:=.cell none } }:=Step.alloc;have C1:Corr (ρ++[s.heap.objs.size]) ((x,s.heap.objs.size)::acc) ((x,σ.length)::acc'):=fun y i q=>by
    rw [List.lookup_cons] at q ⊢;cases hb:y==x with
    | true=>rw [hb] at q;cases q;exact ⟨_,rfl,by refine rwp S.len.symm ?_;simp⟩
    | false=>rw [hb] at q;obtain ⟨c,h1,h2⟩:=C y i q;exact ⟨c,h1,x1.pre i c h2⟩
   apply gk;intro J;obtain ⟨o2,r2,x2,S2,C2⟩:=ih (s:={ s with heap:=s.heap.push { cls:=.type "cell",data:=.cell none } }) S1 C1;apply J;clear J;refine ⟨o2,r2,x1.trans x2,?_,?_⟩
   ·refine rwp e ?_;simpa using S2
   ·have:=C2;simp only [Heap.size_push,List.length_append,List.length_singleton] at this;exact this
  ·refine rwp (if_neg hk) ?_;refine rwp (if_neg hk) ?_;refine rwp (if_neg hk) ?_;have e:xE ((x,k)::r)=xE r:=by
    unfold xE;refine rwp List.filter_cons ?_;simp only [hk];rfl
   refine rwp e ?_;exact ih S C
theorem binds_ok{mM:Model}(f:Str×Value->PUnit->Sem (ForInStep PUnit))(hf:∀ n v u,f (n,v) u=(do storeName env n v;pure (.yield ⟨⟩))){bs:List (Str×V)} :
  ∀ {binds:List (Str×Value)} {own ρ:List Addr} {m m':Loc} {σ σ':List O} {s:Shared} {P:PUnit->Shared->Prop},In w K mb env F own L ρ m σ s ->
   binds.map (·.1)=bs.map (·.1)->DenL w own ρ s.heap (bs.map (·.2)) (binds.map (·.2))->bindF F bs m σ=some (m',σ') ->
   (∀ s',Step own L ρ s own ρ s'->In w K mb env F own L ρ m' σ' s'->P ⟨⟩ s')->wpAny (model prog w) A (forIn binds ⟨⟩ f) P noE s:=by
 induction bs with
 | nil =>
  intro binds own ρ m m' σ σ' s P I e _ hb h
  injection Option.some.inj hb with h1 h2
  refine rwp (List.map_eq_nil_iff.mp e) ?_;refine rwp List.forIn_nil ?_;rw [<- h1,<- h2] at h;exact wpAny_pure (h s (Step.refl _ _ _ _) I)
 | cons p bs ih =>
  intro binds own ρ m m' σ σ' s P I e d hb h;induction binds using List.casesOn with
  | nil=>exact nomatch e
  | cons q binds =>
   obtain ⟨y,v⟩:=q
   injection e with e1 e
   have e1:y=p.1:=e1;obtain ⟨v',vs',e',d1,d2⟩:=d
   injection e' with e2 e3
   have e2:v=v':=e2;rw [<- e2] at d1;rw [<- e3] at d2;rw [List.forIn_cons,hf];refine rwp e1 ?_;refine xQ hb fun k hx hb=>?_;induction k using PySem.NameKind.casesOn with
   | «local» =>
    refine wpAny_bind (wpAny_bind (jX I hx d1 fun s1 x1 I1=>wpAny_pure ?_));exact ih I1 e (I.denL x1 d2) hb fun s2 x2 I2=>h s2 (x1.trans x2) I2
   | cell =>
    refine xQ hb fun i hi hb=>xQ hb fun o hv hb=>?_;refine wpAny_bind (wpAny_bind (storeC_ok I hx hi hv d1 fun s1 x1 I1=>wpAny_pure ?_));exact ih I1 e (I.denL x1 d2) hb fun s2 x2 I2=>h s2 (x1.trans x2) I2
   | _=>exact zK hb
theorem F_ok(hT:TabsOk prog w K mb R T)(hSs:SndSs prog w K mb R T n):SndF prog w K mb R T (n+1):=by
 intro f args σ Q A own L ρ m s vargs h hA st S d;apply gk;intro J;obtain ⟨fi,hfi,h⟩:=zN h;apply J;clear J;cases hsp:T.specs.lookup f with
 | some sp=>exact hT.specs f sp hsp A own L ρ m σ s args vargs Q (hA.less (Nat.le_add_right _ _)) st S d (jF (o:=T.specs.lookup f) h hsp)
 | none =>
 apply gk;intro J;obtain ⟨bs,hbs,h1⟩:=zN (jG (o:=T.specs.lookup f) h hsp);obtain ⟨mσ,hmσ,h2⟩:=zN h1;apply J;clear J;clear h h1;have FO:=hT.fns f fi hfi;apply gk;intro J;obtain ⟨name,params,dV,kV,doc,pm,cdv,ct,an,oc,od,osl,hK,hcd,hbind⟩:=FO.ex;apply J;clear J;cases hlb:(Nat.ble args.length fi.params.length&&Nat.ble fi.params.length (args.length+fi.dfl.length)) with
 | false=>unfold bindA at hbs;rw [hlb] at hbs;cases hbs
 | true =>
  have hbs:some (fi.params.zip (args++fi.dfl.drop (fi.dfl.length - (fi.params.length - args.length))))=some bs:=by unfold bindA at hbs;rw [hlb] at hbs;exact hbs
  have hlen:args.length<=fi.params.length/\fi.params.length<=args.length+fi.dfl.length:=by
   apply gk;intro J;obtain ⟨a,b⟩:=Bool.and_eq_true_iff.mp hlb;apply J;clear J;exact ⟨Nat.le_of_ble_eq_true a,Nat.le_of_ble_eq_true b⟩
  cases hbs;apply gk;intro J;obtain ⟨dv,ddv,hB⟩:=hbind own ρ s vargs st.in (fun a o e=>(st.k a o e).2) (by refine rwp d.length ?_;exact hlen.1) (by refine rwp d.length ?_;exact hlen.2);apply J;clear J;refine codeAny_call_function hA.room (st.in _ _ hK) rfl FO.co FO.gen rfl (codeRec_of st.in hcd) (up (hB _ _ _ _ ?_));simp only [newFunctionEnv,Option.isSome_none,Bool.false_eq_true,if_false];refine wpAny_mono (Q:=fun env s₂=>s₂.heap.NoLimit/\codeAny (model prog w) A (.func fi.body env) (PK w own L ρ m s Q) s₂) (E:=noE) ?_ (fun _ _ x=>x) fun _ _ x=>x.elim;refine wpAny_bind (up<|wpAny_alloc ?_);refine wpAny_bind (wpAny_layCells _ (fun name kind cells=>by cases hkc:kind==NameKind.cell <;> simp [hkc]) _ _ _ _ ?_);have g0:Grow s { s with heap:=s.heap.push { cls:=.type "frame",data:=.dict #[] } }:=Grow.push s _ s.toks;have S0:Sat w (own++[s.heap.objs.size]) s.heap.objs.size ρ [] σ (s.heap.push { cls:=.type "frame",data:=.dict #[] }):=S.frame;apply gk;intro J;obtain ⟨o1,r1,x1,S1,C1⟩:=cells_ok fi.scope.names (s:={ s with heap:=s.heap.push { cls:=.type "frame",data:=.dict #[] } }) S0 (acc:=[]) (acc':=[]) (fun _ _ q=>by cases q);apply J;clear J;have I1:In w K mb (newEnv fi.scope s.heap.objs.size mainGlobals (cellsFrom (s.heap.push { cls:=.type "frame",data:=.dict #[] }).objs.size fi.scope.names []) (fi.qual ++ ".<locals>.") (some f) cdv none builtinsNs)
    ⟨fi.scope.names,cellsFrom σ.length fi.scope.names [],none⟩ o1 s.heap.objs.size r1 [] (σ++xE fi.scope.names) { s with heap:=pushCells (s.heap.push { cls:=.type "frame",data:=.dict #[] }) fi.scope.names }:=by
   have y:=x1.leave S rfl g0;exact ⟨S1,st.ev (y.ev S.sub) y.new y.size,⟨FO.kind,rfl,rfl,rfl,rfl,C1,fun _ e=>by cases e⟩⟩
  refine wpAny_bind (binds_ok (mM:=model prog w) (F:=⟨fi.scope.names,cellsFrom σ.length fi.scope.names [],none⟩) _ (fun _ _ _=>rfl) I1 (bs:=fi.params.zip (args++fi.dfl.drop (fi.dfl.length - (fi.params.length - args.length)))) (m':=mσ.1) (σ':=mσ.2) ?_ ?_ hmσ fun s2 x2 I2=>?_)
  ·have hl2:dv.length=(fi.dfl.drop (fi.dfl.length - (fi.params.length - args.length))).length:=by refine rwp d.length.symm ?_;exact ddv.length
   rw [List.map_fst_zip,List.map_fst_zip]
   ·simp only [List.length_append,List.length_drop];exact Nat.le_of_eq (dropL hlen.1 hlen.2).symm
   ·refine rwp List.length_append ?_;refine rwp hl2 ?_;refine rwp d.length ?_;simp only [List.length_drop];exact Nat.le_of_eq (dropL hlen.1 hlen.2).symm
  ·have hl2:dv.length=(fi.dfl.drop (fi.dfl.length - (fi.params.length - args.length))).length:=by refine rwp d.length.symm ?_;exact ddv.length
   rw [List.map_snd_zip,List.map_snd_zip]
   ·have y:=x1.leave S rfl g0;have dd:=DenL.append d (by rw [d.length] at ddv;exact ddv);exact dd.mono (y.ev S.sub) y.pre
   ·refine rwp List.length_append ?_;refine rwp hl2 ?_;refine rwp d.length ?_;simp only [List.length_drop];exact Nat.le_of_eq (dropL hlen.1 hlen.2)
   ·simp only [List.length_append,List.length_drop];exact Nat.le_of_eq (dropL hlen.1 hlen.2)
  ·refine wpAny_pure ⟨I2.st.lim,codeAny_func ?_⟩;refine wpAny_mono (hSs h2 (hA.less (hlf2 R n)).deeper I2) (fun fl s3 zz0=>?_) fun _ _ x=>x.elim;apply gk;intro J;obtain ⟨o3,r3,c,m3,σ3,x3,S3,d3,q3⟩:=zz0;apply J;clear J;have xx:=(x1.trans x2).trans x3;have y3:=xx.leave S rfl g0;have z3:=S.leave rfl g0 xx S3;have k3:=xx.keepL S rfl g0;induction c using Mine.Fl.casesOn with
   | next=>refine rwp (show fl=.next from d3) ?_;exact ⟨⟨_,rfl,o3,r3,.none,σ3,y3,z3,rfl,q3⟩,k3⟩
   | ret c=>obtain ⟨v,e,d⟩:=d3;subst e;exact ⟨⟨v,rfl,o3,r3,c,σ3,y3,z3,d,q3⟩,k3⟩
   | _=>exact q3.elim
end
end Mine
end
section
namespace Mine
section
variable{prog:Program}{w:World}{K:Frag}{mb:Str->Option Value}{A:Around}{own ρ:List Addr}{L:Addr}{m:Loc}{σ:List O}{s:Shared}{R n r:Nat}{T:Tabs}{F:Fra}{env:Env}
structure Nx(fp:List Addr)(s s':Shared):Prop where
 gens:s'.gens=s.gens
 os:s'.os=s.os
 size:s.heap.objs.size<=s'.heap.objs.size
 keep:∀ a o,s.heap.get? a=some o->a∉fp->s'.heap.get? a=some o
theorem Nx.refl(fp s):Nx fp s s:=⟨rfl,rfl,Nat.le_refl _,fun _ _ e _=>e⟩
theorem Nx.trans{fp s1 s2 s3}(x:Nx fp s1 s2)(y:Nx fp s2 s3):Nx fp s1 s3:=⟨y.gens.trans x.gens,y.os.trans x.os,Nat.le_trans x.size y.size,fun a o e n=>y.keep a o (x.keep a o e n) n⟩
theorem Nx.ev{fp s s'}(x:Nx fp s s')(h:∀ a∈fp,a∈own):Ev own s.heap own s'.heap:=fun a o e n=>⟨x.keep a o e fun q=>n (h a q),n⟩
inductive IterG(oi:Option Nat)(w:World)(own ρ:List Addr)(h:Heap)(items:List V):List Addr->Value->Nat->Prop
 | lst {I l:Addr} {its:Array Value} {n k:Nat}:h.IsListIter I l k->l∉own->h.get? l=some (listOf its n)->DenL w own ρ h items its.toList->IterG oi w own ρ h items [I] (.ref I) k
 | tup {I l:Addr} {its:Array Value} {n k:Nat}:h.IsTupleIter I l k->l∉own->h.get? l=some (xX its n)->DenL w own ρ h items its.toList->IterG oi w own ρ h items [I] (.ref I) k
 | rng {I:Addr} {N k:Nat}:IsRangeIter h I (k:Int) ((N:Int) - (k:Nat)) 1->items=(List.range N).map (fun i=>V.int (i:Nat))->IterG oi w own ρ h items [I] (.ref I) k
 | str {I:Addr} {x:Str} {t:Tok} {k:Nat} {ty:String}:(ty = "str_ascii_iterator" \/ ty = "str_iterator")->h.IsStrIter I ty x t k->items=x.cps.toList.map (fun c=>V.str ⟨#[c]⟩)->IterG oi w own ρ h items [I] (.ref I) k
 | enm {e I l:Addr} {its:Array Value} {n k:Nat} {base:List V} {old:Value}:e≠I->IsEnum h e I (k:Int) old->h.IsListIter I l k->l∉own->h.get? l=some (listOf its n)->DenL w own ρ h base its.toList->items=kS base ->
   IterG oi w own ρ h items [e,I] (.ref e) k
 | own {i:Nat} {I a:Addr} {k:Nat}:oi=some i->h.IsListIter I a k->ρ[i]?=some a->IterG oi w own ρ h items [I] (.ref I) k
theorem IterG.frame{oi:Option Nat}{h h':Heap}{own' ρ':List Addr}{items:List V}{fp:List Addr}{it:Value}{k:Nat}(x:IterG oi w own ρ h items fp it k)(kp:∀ b∈fp,∀ o,h.get? b=some o->h'.get? b=some o)(ev:Ev own h own' h')
  (pre:∀ (i:Nat) (a:Addr),ρ[i]?=some a->ρ'[i]?=some a):IterG oi w own' ρ' h' items fp it k:=by
 cases x with
 | lst a b c d=>exact .lst (a.at fun o e=>kp _ (by simp) o e) (ev _ _ c b).2 (ev _ _ c b).1 (d.mono ev pre)
 | tup a b c d=>exact .tup (let ⟨o,ho,r⟩:=a;⟨o,kp _ (by simp) o ho,r⟩) (ev _ _ c b).2 (ev _ _ c b).1 (d.mono ev pre)
 | rng a b=>exact .rng (kp _ (by simp) _ a) b
 | str a b c=>exact .str a (let ⟨o,ho,r⟩:=b;⟨o,kp _ (by simp) o ho,r⟩) c
 | enm z a b c d e f=>exact .enm z (kp _ (by simp) _ a) (b.at fun o e=>kp _ (by simp) o e) (ev _ _ d c).2 (ev _ _ d c).1 (e.mono ev pre) f
 | own z a b=>exact .own z (a.at fun o e=>kp _ (by simp) o e) (pre _ _ b)
noncomputable abbrev qY:=IterG none
noncomputable abbrev OwnAt(oi:Option Nat)(w:World)(own ρ:List Addr)(h:Heap)(items:List V):Prop:=∀ i a,oi=some i->ρ[i]?=some a->∃ its n,h.get? a=some (listOf its n)/\DenL w own ρ h items its.toList
theorem enum_get{base:List V}{k:Nat}{x:V}(h:(kS base)[k]?=some x):∃ y,base[k]?=some y/\x=.tup [.int (k:Nat),y]:=by
 unfold kS at h;rw [List.getElem?_map,List.getElem?_zipIdx] at h;cases hb:base[k]? with
 | none=>rw [hb] at h;cases h
 | some y=>rw [hb] at h;simp at h;exact ⟨y,rfl,h.symm⟩
noncomputable def okTarget(t:Expr)(fp:List Addr):Prop:=fp.length=2->isTupE t=true
theorem kQ{t:Expr}{I:Addr}{o:Obj}{v:Value}{P:Unit->Shared->Prop}(g:s.heap.get? I=some o)(hc:∀ ty,o.cls=.type ty->["enumerate", "zip", "dict_itemiterator", "dict_reverseitemiterator", "odict_iterator", "itertools.zip_longest", "itertools.pairwise"].contains ty=false) (h:P () s) :
  wpAny (model prog w) A (letOwnedTupleGo t (.ref I) v) P noE s:=by
 have key:wpAny (model prog w) A (match (Value.ref I,v) with
  | (.ref r,.ref a)=>(do
   let o <- load r
   match o.cls,o.data with
   | .type n,.fields vs =>
    if ["enumerate", "zip", "dict_itemiterator", "dict_reverseitemiterator", "odict_iterator", "itertools.zip_longest", "itertools.pairwise"].contains n&&vs[0]?==some (rawInt a) then
     rule "for.unpacks-the-owned-tuple"
     updateField r 0 .none
   | _,_=>pure ():Sem Unit)
  | _=>pure ()) P noE s:=by
  induction v using PySem.Value.casesOn <;> first | exact wpAny_pure h | skip
  refine wpAny_bind (up<|wpAny_load g ?_);obtain ⟨c,d,dt,sl⟩:=o;induction c using PySem.Value.casesOn <;> induction dt using PySem.Data.casesOn <;> first | exact wpAny_pure h | skip
  rename_i ty vs
  show wpAny _ A (if (["enumerate", "zip", "dict_itemiterator", "dict_reverseitemiterator", "odict_iterator", "itertools.zip_longest", "itertools.pairwise"].contains ty&&vs[0]?==some (rawInt _))=true then _ else _) P noE s
  refine rwp (if_neg (by rw [hc ty rfl];simp)) ?_;exact wpAny_pure h
 induction t using PySem.Expr.casesOn <;> first | exact key | exact wpAny_pure h
theorem item_okG{oi:Option Nat}{t:Expr}{items:List V}{fp:List Addr}{it:Value}{k:Nat}{x:V}(hA:AOk r A)(ht:okTarget t fp)(I:IterG oi w own ρ s.heap items fp it k)(hO:OwnAt oi w own ρ s.heap items)(hx:items[k]?=some x)(hf:∀ a∈fp,a∈own)(hl:∀ a∈own,a < s.heap.objs.size) :
  wpAny (model prog w) A (pyNext it) (fun res s1=>∃ v,res=some v/\Nx fp s s1/\Den w own ρ s1.heap x v /\
   wpAny (model prog w) A (letOwnedTupleGo t it v) (fun _ s2=>Nx fp s1 s2/\IterG oi w own ρ s2.heap items fp it (k+1)) noE s1) noE s:=by
 have ty1:∀ (h':Heap) (I l:Addr) (k:Nat),h'.IsListIter I l k->∃ o,h'.get? I=some o/\∀ ty,o.cls=.type ty->["enumerate", "zip", "dict_itemiterator", "dict_reverseitemiterator", "odict_iterator", "itertools.zip_longest", "itertools.pairwise"].contains ty=false :=
  fun h' I l k ⟨o,ho,hc,_⟩=>⟨o,ho,fun ty e=>by rw [hc] at e;cases e;decide⟩
 cases I with
 | lst a b c d =>
  rename_i I l its n
  apply gk;intro J;obtain ⟨v,hv,dv⟩:=d.get hx;apply J;clear J;have hne:l≠I:=fun q=>b (q ▸ hf I (.head _));refine up<|wpAny_pyNext_list_item a ⟨_,c,rfl,_,rfl⟩ (x:=v) (by simpa using hv) fun h' hit hs=>?_
  have nx:Nx [I] s { s with heap:=h' }:=⟨rfl,rfl,Nat.le_of_eq hs.1.symm,fun b o e n=>(hs.2 b fun q=>n (q ▸ .head _)).trans e⟩
  have ev:=nx.ev hf;refine ⟨v,rfl,nx,dv.mono ev (fun _ _ q=>q),?_⟩;apply gk;intro J;obtain ⟨o,ho,hc⟩:=ty1 _ _ _ _ hit;apply J;clear J;exact kQ ho hc ⟨Nx.refl _ _,.lst hit b (ev _ _ c b).1 (d.mono ev (fun _ _ q=>q))⟩
 | tup a b c d =>
  rename_i I l its n
  apply gk;intro J;obtain ⟨v,hv,dv⟩:=d.get hx;apply J;clear J;refine up<|wpAny_pyNext_tuple_item a ⟨_,c,rfl,_,rfl⟩ (x:=v) (by simpa using hv) fun h' hit hs=>?_
  have nx:Nx [I] s { s with heap:=h' }:=⟨rfl,rfl,Nat.le_of_eq hs.1.symm,fun b o e n=>(hs.2 b fun q=>n (q ▸ .head _)).trans e⟩
  have ev:=nx.ev hf;refine ⟨v,rfl,nx,dv.mono ev (fun _ _ q=>q),?_⟩;apply gk;intro J;obtain ⟨o,ho,hc,_⟩:=id hit;apply J;clear J;exact kQ ho (fun ty e=>by rw [hc] at e;cases e;decide) ⟨Nx.refl _ _,.tup hit b (ev _ _ c b).1 (d.mono ev (fun _ _ q=>q))⟩
 | rng a e =>
  rename_i I N
  subst e;have hk:k < N:=by
   have:=(List.getElem?_eq_some_iff.mp hx).1;simpa using this
  have hxe:x=.int (k:Nat):=by
   rw [List.getElem?_map,List.getElem?_range hk] at hx;simpa using hx.symm
  subst hxe;refine up<|wpAny_pyNext_range_item a (by simp_all) fun h' hit hs=>?_
  have nx:Nx [I] s { s with heap:=h',toks:=s.toks+1 }:=⟨rfl,rfl,Nat.le_of_eq hs.1.symm,fun b o e n=>(hs.2 b fun q=>n (q ▸ .head _)).trans e⟩
  refine ⟨_,rfl,nx,⟨_,rfl⟩,?_⟩;refine kQ hit (fun ty e=>by cases e;decide) ⟨Nx.refl _ _,.rng ?_ rfl⟩;have e1:((k:Int)+1)=((k+1:Nat):Int):=by simp
  have e2:((N:Int) - (k:Nat) - 1)=(N:Int) - ((k+1:Nat):Nat):=by push_cast;simp +arith
  rw [e1,e2] at hit;exact hit
 | str hty b c =>
  rename_i I y tk ty
  subst c;obtain ⟨c,hc,hxe⟩:∃ c,y.cps[k]?=some c/\V.str ⟨#[c]⟩=x:=by
   rw [List.getElem?_map] at hx;cases hq:y.cps.toList[k]? with
   | none=>rw [hq] at hx;cases hx
   | some c=>rw [hq] at hx;exact ⟨c,by simpa using hq,by simpa using hx⟩
  subst hxe;have fin:∀ h',h'.IsStrIter I ty y tk (k+1)->Heap.SameBut I s.heap h'->∃ v,some (Value.str ⟨#[c]⟩ s.toks)=some v/\Nx [I] s { s with heap:=h',toks:=s.toks+1 }/\Den w own ρ h' (.str ⟨#[c]⟩) v /\
    wpAny (model prog w) A (letOwnedTupleGo t (.ref I) v) (fun _ s2=>Nx [I] { s with heap:=h',toks:=s.toks+1 } s2/\IterG oi w own ρ s2.heap (y.cps.toList.map fun c=>V.str ⟨#[c]⟩) [I] (.ref I) (k+1)) noE { s with heap:=h',toks:=s.toks+1 }:=fun h' hit hs=>by
   have nx:Nx [I] s { s with heap:=h',toks:=s.toks+1 }:=⟨rfl,rfl,Nat.le_of_eq hs.1.symm,fun b o e n=>(hs.2 b fun q=>n (q ▸ .head _)).trans e⟩
   refine ⟨_,rfl,nx,⟨_,rfl⟩,?_⟩;apply gk;intro J;obtain ⟨o,ho,hcl,_⟩:=id hit;apply J;clear J;exact kQ ho (fun ty e=>by rw [hcl] at e;cases e;rcases hty with rfl | rfl <;> decide) ⟨Nx.refl _ _,.str hty hit rfl⟩
  rcases hty with rfl | rfl
  ·exact up<|wpAny_pyNext_ascii_item b hc fun h' hit hs=>fin h' hit hs
  ·exact up<|wpAny_pyNext_wide_item b hc fun h' hit hs=>fin h' hit hs
 | enm hne a b c d e f =>
  rename_i ea I l its n base old
  subst f;apply gk;intro J;obtain ⟨y,hy,rfl⟩:=enum_get hx;obtain ⟨v,hv,dv⟩:=e.get hy;apply J;clear J;refine up<|wpAny_pyNext_enum_item a b ⟨_,d,rfl,_,rfl⟩ (x:=v) (by simpa using hv) hne fun h' ho hit htu hz hk=>?_
  have nx:Nx [ea,I] s { s with heap:=h',toks:=s.toks+1 }:=⟨rfl,rfl,by show _<=h'.objs.size;simp_all,fun b o e n=>hk b o (fun q=>n (q ▸ .head _)) (fun q=>n (q ▸ .tail _ (.head _))) e⟩
  have ev:=nx.ev hf;have hfr:s.heap.objs.size∉own:=fun q=>Nat.lt_irrefl _ (hl _ q);refine ⟨_,rfl,nx,⟨_,_,0,rfl,hfr,htu,DenL.cons ⟨_,rfl⟩ (DenL.cons (dv.mono ev (fun _ _ q=>q)) rfl)⟩,?_⟩;have htt:=ht rfl;induction t using PySem.Expr.casesOn <;> first | exact zK htt | exact fne htt | cases htt | skip
  refine up<|wpAny_letOwnedTupleGo_enum ho fun h2 he2 hs2=>?_
  have nx2:Nx [ea,I] { s with heap:=h',toks:=s.toks+1 } { s with heap:=h2,toks:=s.toks+1 }:=⟨rfl,rfl,Nat.le_of_eq hs2.1.symm,fun b o e n=>(hs2.2 b fun q=>n (q ▸ .head _)).trans e⟩
  have ev2:=nx2.ev hf;have hit2:h2.IsListIter I l (k+1):=hit.extBut hs2.extBut (Ne.symm hne);have e1:((k:Int)+1)=((k+1:Nat):Int):=by simp
  rw [e1] at he2;exact ⟨nx2,.enm hne he2 hit2 c (ev2 _ _ (ev _ _ d c).1 c).1 ((e.mono ev (fun _ _ q=>q)).mono ev2 (fun _ _ q=>q)) rfl⟩
 | own z a b =>
  rename_i i I l
  apply gk;intro J;obtain ⟨its,n,c,d⟩:=hO i l z b;obtain ⟨v,hv,dv⟩:=d.get hx;apply J;clear J;refine up<|wpAny_pyNext_list_item a ⟨_,c,rfl,_,rfl⟩ (x:=v) (by simpa using hv) fun h' hit hs=>?_
  have nx:Nx [I] s { s with heap:=h' }:=⟨rfl,rfl,Nat.le_of_eq hs.1.symm,fun b o e n=>(hs.2 b fun q=>n (q ▸ .head _)).trans e⟩
  have ev:=nx.ev hf;refine ⟨v,rfl,nx,dv.mono ev (fun _ _ q=>q),?_⟩;apply gk;intro J;obtain ⟨o,ho,hc⟩:=ty1 _ _ _ _ hit;apply J;clear J;exact kQ ho hc ⟨Nx.refl _ _,.own z hit b⟩
theorem ownAt_none{w:World}{own ρ:List Addr}{h:Heap}{items:List V}:OwnAt none w own ρ h items:=fun _ _ e=>by cases e
theorem item_ok{t:Expr}{items:List V}{fp:List Addr}{it:Value}{k:Nat}{x:V}(hA:AOk r A)(ht:okTarget t fp)(I:qY w own ρ s.heap items fp it k)(hx:items[k]?=some x)(hf:∀ a∈fp,a∈own)(hl:∀ a∈own,a < s.heap.objs.size) :
  wpAny (model prog w) A (pyNext it) (fun res s1=>∃ v,res=some v/\Nx fp s s1/\Den w own ρ s1.heap x v /\
   wpAny (model prog w) A (letOwnedTupleGo t it v) (fun _ s2=>Nx fp s1 s2/\qY w own ρ s2.heap items fp it (k+1)) noE s1) noE s:=item_okG hA ht I ownAt_none hx hf hl
theorem end_okG{oi:Option Nat}{items:List V}{fp:List Addr}{it:Value}(hA:AOk r A)(I:IterG oi w own ρ s.heap items fp it items.length)(hO:OwnAt oi w own ρ s.heap items)(hf:∀ a∈fp,a∈own) :
  wpAny (model prog w) A (pyNext it) (fun res s1=>res=none/\Nx fp s s1) noE s:=by
 have hh:=hA.handled;refine up<|wpAny_size ?_
 cases I with
 | lst a b c d =>
  rename_i I l its n
  exact wpAny_pyNext_list_end hh a ⟨_,c,rfl,_,rfl⟩ (by have:=d.length;simp at this;simp;simp_all) fun h' he z=>⟨rfl,rfl,rfl,z,fun b o e n=>he b o (fun q=>n (q ▸ .head _)) e⟩
 | tup a b c d =>
  rename_i I l its n
  exact wpAny_pyNext_tuple_end hh a ⟨_,c,rfl,_,rfl⟩ (by have:=d.length;simp at this;simp;simp_all) fun h' he z=>⟨rfl,rfl,rfl,z,fun b o e n=>he b o (fun q=>n (q ▸ .head _)) e⟩
 | rng a e =>
  rename_i I N
  subst e;exact wpAny_pyNext_range_end hh a (by simp) fun h' he z=>⟨rfl,rfl,rfl,z,fun b o e n=>he b o (fun q=>n (q ▸ .head _)) e⟩
 | str hty b c =>
  rename_i I y tk ty
  subst c;rcases hty with rfl | rfl
  ·exact wpAny_pyNext_ascii_end hh b (by simp) fun h' he z=>⟨rfl,rfl,rfl,z,fun b o e n=>he b o (fun q=>n (q ▸ .head _)) e⟩
  ·exact wpAny_pyNext_wide_end hh b (by simp) fun h' he z=>⟨rfl,rfl,rfl,z,fun b o e n=>he b o (fun q=>n (q ▸ .head _)) e⟩
 | enm hne a b c d e f =>
  rename_i ea I l its n base old
  subst f;have hb:(kS base).length=base.length:=by simp [kS]
  exact wpAny_pyNext_enum_end hh a b ⟨_,d,rfl,_,rfl⟩ (by have:=e.length;simp at this;simp [hb];simp_all) fun h' he z=>⟨rfl,rfl,rfl,z,fun b o e n=>he b o (fun q=>n (q ▸ .tail _ (.head _))) e⟩
 | own z a b =>
  rename_i i I l
  apply gk;intro J;obtain ⟨its,n,c,d⟩:=hO i l z b;apply J;clear J;exact wpAny_pyNext_list_end hh a ⟨_,c,rfl,_,rfl⟩ (by have:=d.length;simp at this;simp;lia) fun h' he z=>⟨rfl,rfl,rfl,z,fun b o e n=>he b o (fun q=>n (q ▸ .head _)) e⟩
theorem end_ok{items:List V}{fp:List Addr}{it:Value}(hA:AOk r A)(I:qY w own ρ s.heap items fp it items.length)(hf:∀ a∈fp,a∈own) :
  wpAny (model prog w) A (pyNext it) (fun res s1=>res=none/\Nx fp s s1) noE s:=end_okG hA I ownAt_none hf
theorem iter_ok{a:V}{va:Value}{items:List V}(hA:AOk r A)(hi:kX a=some items)(d:Den w own ρ s.heap a va)(hl:∀ x∈own,x < s.heap.objs.size) :
  wpAny (model prog w) A (pyIter va) (fun it s1=>∃ fp,fp.length=1/\Grow s s1/\(∀ x∈fp,s.heap.objs.size<=x/\x < s1.heap.objs.size)/\qY w (own++fp) ρ s1.heap items fp it 0) noE s:=by
 have hfr:s.heap.objs.size∉own:=fun q=>Nat.lt_irrefl _ (hl _ q);have ev:∀ (o:Obj),Ev own s.heap (own++[s.heap.objs.size]) (s.heap.push o):=fun o b ob e n=>⟨Heap.get?_push_of_some _ e,fun q=>by
  rcases List.mem_append.mp q with q | q
  ·exact n q
  ·rw [List.mem_singleton] at q;exact Nat.ne_of_lt (Heap.lt_size e) q⟩
 have sz:∀ (o:Obj),∀ x∈[s.heap.objs.size],s.heap.objs.size<=x/\x < (s.heap.push o).objs.size:=fun o x q=>by
  rw [List.mem_singleton] at q;subst q;rw [Heap.size_push];exact ⟨Nat.le_refl _,Nat.lt_succ_self _⟩
 induction a using Mine.V.casesOn with
 | tup vs =>
  cases hi;obtain ⟨b,its,n,rfl,nb,g,dl⟩:=d;have e1:=ev { cls:=.type "tuple_iterator",data:=.fields #[.ref b,.int 0 0] };refine up<|wpAny_pyIter_tuple ⟨_,g,rfl,_,rfl⟩ ⟨[_],rfl,Grow.push s _ s.toks,sz _,?_⟩
  exact .tup ⟨_,Heap.get?_push_size _ rfl,rfl,rfl⟩ (e1 _ _ g nb).2 (e1 _ _ g nb).1 (dl.mono e1 (fun _ _ q=>q))
 | lst vs =>
  cases hi;obtain ⟨b,its,n,rfl,nb,g,dl⟩:=d;have e1:=ev { cls:=.type "list_iterator",data:=.fields #[.ref b,.int 0 0] };refine up<|wpAny_pyIter_list ⟨_,g,rfl,_,rfl⟩ ⟨[_],rfl,Grow.push s _ s.toks,sz _,?_⟩
  exact .lst ⟨_,Heap.get?_push_size _ rfl,rfl,rfl⟩ (e1 _ _ g nb).2 (e1 _ _ g nb).1 (dl.mono e1 (fun _ _ q=>q))
 | rng N =>
  cases hi;obtain ⟨b,its,t0,t1,t2,rfl,nb,g,rfl,h0,h1⟩:=d;have hsz:Builtin.Range.rangeSize 0 N 1=((N.toNat:Nat):Int):=by
   unfold Builtin.Range.rangeSize;simp;lia
  refine up<|wpAny_pyIter_range g ?_ ⟨[_],rfl,Grow.push s _ s.toks,sz _,?_⟩
  ·unfold Builtin.Range.small;refine rwp hsz ?_;simp [Builtin.Range.rangeFitsLong];lia
  ·refine rwp hsz ?_;exact .rng (k:=0) (N:=N.toNat) (by have:=Heap.get?_push_size s.heap (o:={ cls:=.type "range_iterator",data:=.fields #[rawInt 0,rawInt ((N.toNat:Nat):Int),rawInt 1] }) rfl;simpa using this) rfl
 | str x =>
  cases hi;obtain ⟨t,rfl⟩:=d;by_cases ha:x.cps.all (· < 128)=true
  ·refine up<|wpAny_pyIter_ascii ha ⟨[_],rfl,Grow.push s _ s.toks,sz _,?_⟩
   exact .str (.inl rfl) ⟨_,Heap.get?_push_size _ rfl,rfl,rfl⟩ rfl
  ·refine up<|wpAny_pyIter_wide (by simpa using ha) ⟨[_],rfl,Grow.push s _ s.toks,sz _,?_⟩
   exact .str (.inr rfl) ⟨_,Heap.get?_push_size _ rfl,rfl,rfl⟩ rfl
 | _=>first | exact zK hi | exact fne hi | cases hi
theorem iter_own{i:Nat}{va:Value}{items:List V}(S:Sat w own L ρ m σ s.heap)(hi:σ[i]?=some (.list items))(d:Den w own ρ s.heap (.loc i) va) :
  wpAny (model prog w) A (pyIter va) (fun it s1=>∃ fp,fp.length=1/\Grow s s1/\(∀ x∈fp,s.heap.objs.size<=x/\x < s1.heap.objs.size)/\IterG (some i) w (own++fp) ρ s1.heap items fp it 0) noE s:=by
 apply gk;intro J;obtain ⟨a,rfl,ha⟩:=d;obtain ⟨o,g,its,n,rfl,_⟩:=S.objs i _ a hi ha;apply J;clear J;refine up<|wpAny_pyIter_list ⟨_,g,rfl,_,rfl⟩ ⟨[s.heap.objs.size],rfl,Grow.push s _ s.toks,fun x q=>?_,?_⟩
 ·rw [List.mem_singleton] at q;subst q;rw [Heap.size_push];exact ⟨Nat.le_refl _,Nat.lt_succ_self _⟩
 ·exact .own rfl ⟨_,Heap.get?_push_size _ rfl,rfl,rfl⟩ ha
end
end Mine
end
section
namespace Mine
section
variable{prog:Program}{w:World}{K:Frag}{mb:Str->Option Value}{A:Around}{own ρ:List Addr}{L:Addr}{m:Loc}{σ:List O}{s:Shared}{R n r:Nat}{T:Tabs}{F:Fra}{env:Env}
theorem Sat.nx{fp:List Addr}{s':Shared}(S:Sat w own L ρ m σ s.heap)(x:Nx fp s s')(h1:∀ a∈fp,a∈own)(h2:∀ a∈fp,a∉L::ρ):Sat w own L ρ m σ s'.heap:=by
 have ev:=x.ev h1;refine ⟨S.len,S.nodup,S.nl,S.sub,fun a q=>Nat.lt_of_lt_of_le (S.lt a q) x.size,fun i X a e1 e2=>?_,S.fr.mono ev (fun _ _ q=>q) fun o e=>x.keep _ _ e fun q=>h2 _ q (.head _)⟩;obtain ⟨o,g,d⟩:=S.objs i X a e1 e2;exact ⟨o,x.keep _ _ g fun q=>h2 _ q (.tail _ (List.mem_of_getElem? e2)),d.mono ev (fun _ _ q=>q)⟩
theorem In.nx{fp:List Addr}{s':Shared}(I:In w K mb env F own L ρ m σ s)(x:Nx fp s s')(h1:∀ a∈fp,a∈own)(h2:∀ a∈fp,a∉L::ρ):In w K mb env F own L ρ m σ s' :=
 ⟨I.S.nx x h1 h2,I.st.ev (x.ev h1) (fun _ _ q=>q) x.size,I.E⟩
theorem Step.nx{own0 ρ0 fp:List Addr}{s0 s':Shared}(y:Step own0 L ρ0 s0 own ρ s)(x:Nx fp s s')(h:∀ a∈fp,s0.heap.objs.size<=a):Step own0 L ρ0 s0 own ρ s' :=
 ⟨x.gens.trans y.gens,x.os.trans y.os,y.sub,y.new,y.pre,y.newρ,Nat.le_trans y.size x.size,fun a o e q=>x.keep a o (y.keep a o e q) fun z=>Nat.lt_irrefl _ (Nat.lt_of_lt_of_le (Heap.lt_size e) (h a z))⟩
theorem hide_ev{fp:List Addr}{s':Shared}(g:Grow s s')(h:∀ a∈fp,s.heap.objs.size<=a):Ev own s.heap (own++fp) s'.heap:=fun a o e q=>⟨g.keep _ _ e,fun z=>by
 rcases List.mem_append.mp z with z | z
 ·exact q z
 ·exact Nat.lt_irrefl _ (Nat.lt_of_lt_of_le (Heap.lt_size e) (h a z))⟩
theorem In.hideStep{fp:List Addr}{s':Shared}(_I:In w K mb env F own L ρ m σ s)(g:Grow s s')(h:∀ a∈fp,s.heap.objs.size<=a):Step own L ρ s (own++fp) ρ s' :=
 ⟨g.gens,g.os,fun _ q=>List.mem_append_left _ q,fun a l q z=>by
  rcases List.mem_append.mp z with z | z
  ·exact q z
  ·exact Nat.lt_irrefl _ (Nat.lt_of_lt_of_le l (h a z)),fun _ _ q=>q,fun _ _ q=>q,g.size,fun _ _ e _=>g.keep _ _ e⟩
theorem In.hide{fp:List Addr}{s':Shared}(I:In w K mb env F own L ρ m σ s)(g:Grow s s')(h:∀ a∈fp,s.heap.objs.size<=a/\a < s'.heap.objs.size):In w K mb env F (own++fp) L ρ m σ s':=by
 have ev:Ev own s.heap (own++fp) s'.heap:=hide_ev g fun a q=>(h a q).1;refine I.next (I.hideStep g fun a q=>(h a q).1) ⟨I.S.len,I.S.nodup,I.S.nl,fun a q=>List.mem_append_left _ (I.S.sub a q),fun a q=>?_,fun i X a e1 e2=>?_,I.S.fr.mono ev (fun _ _ q=>q) fun _ e=>g.keep _ _ e⟩
 ·rcases List.mem_append.mp q with q | q
  ·exact Nat.lt_of_lt_of_le (I.S.lt a q) g.size
  ·exact (h a q).2
 ·obtain ⟨o,g',d⟩:=I.S.objs i X a e1 e2;exact ⟨o,g.keep _ _ g',d.mono ev (fun _ _ q=>q)⟩
theorem wpAny_pyIter_self{oi:Option Nat}{items:List V}{fp:List Addr}{it:Value}{k:Nat}{P:Value->Shared->Prop}{E:Value->Shared->Prop}(I:IterG oi w own ρ s.heap items fp it k)(h:P it s):wpAny (model prog w) A (pyIter it) P E s:=by
 cases I with
 | lst a b c d=>exact up<|wpAny_pyIter_listiter a h
 | tup a b c d=>exact up<|wpAny_pyIter_tupleiter a h
 | rng a b=>exact up<|wpAny_pyIter_rangeiter a h
 | str a b c =>
  rcases a with rfl | rfl
  ·exact up<|wpAny_pyIter_striter_ascii b h
  ·exact up<|wpAny_pyIter_striter_wide b h
 | enm z a b c d e f=>exact up<|wpAny_pyIter_enum a h
 | own z a b=>exact up<|wpAny_pyIter_listiter a h
theorem bind_ok{t:Expr}{x:V}{v:Value}{bs:List (Str×V)}{P:Unit->Shared->Prop}(hA:AOk r A)(hb:vC t x=some bs)(hl:xO F bs=true)(I:In w K mb env F own L ρ m σ s)(d:Den w own ρ s.heap x v)
  (h:∀ s',Step own L ρ s own ρ s'->In w K mb env F own L ρ (xN m bs) σ s'->P () s'):wpAny (model prog w) A (assign t env v) P noE s:=by
 rcases bindT_of hb with ⟨y,p,rfl,rfl⟩ | ⟨y,p1,z,p2,k,p,u1,u2,rfl,rfl,rfl⟩
 ·have hl':((F.names.lookup y==some .local)&&true)=true:=by simpa [xO] using hl
  have h1:F.names.lookup y=some .local:=by simpa using hl'
  exact kA (jX I h1 d fun s' x' I'=>h s' x' I')
 ·have hl':((F.names.lookup y==some .local)&&(F.names.lookup z==some .local))=true:=by simpa [xO] using hl
  obtain ⟨h1,h2⟩:=Bool.and_eq_true_iff.mp hl';rw [arm_assign_Tuple];refine wpAny_bind (wpAny_standAt ?_);refine wpAny_bind (wpAny_holding (wpAny_mono (up<|unpack_ok hA I.S (n:=2) rfl d) (fun l s' zz0=>?_) fun _ _ x=>x));obtain ⟨g,d'⟩:=zz0;obtain ⟨v1,l1,rfl,d1,v2,l2,rfl,d2,rfl⟩:=d';have I':=I.grow g;refine kT (kA (jX I' (by simpa using h1) d1 fun s2 x2 I2=>?_));refine kT (kA (jX I2 (by simpa using h2) (I'.den x2 d2) fun s3 x3 I3=>?_));exact assignInOrder_nil (h s3 (((g.step _ _ _).trans x2).trans x3) I3)
theorem forG_ok{own0 ρ0:List Addr}{s0:Shared}{t:Expr}{items:List V}{fp:List Addr}{it:Value}{b:List Stmt}{Inv:Nat->Loc->List O->Prop}{Q:Fl->Loc->List O->Prop}{E':Value->Shared->Prop}
  (hA:AOk r A) (ht:okTarget t fp)
  (turn:∀ k x m σ own ρ s,items[k]?=some x->Inv k m σ->∃ bs,vC t x=some bs/\xO F bs=true/\(In w K mb env F own L ρ (xN m bs) σ s->wpAny (model prog w) A (execs b env) (PF w own L ρ s fun fl m2 σ2=>match fl with
   | .next=>Inv (k+1) m2 σ2
   | .cont=>Inv (k+1) m2 σ2
   | .brk=>Q .next m2 σ2
   | .ret v=>Q (.ret v) m2 σ2) noE s))
  (done:∀ m σ,Inv items.length m σ->Q .next m σ)
  (y0:Step own0 L ρ0 s0 own ρ s) (I:In w K mb env F own L ρ m σ s) (It:qY w own ρ s.heap items fp it 0) (f1:∀ a∈fp,a∈own) (f2:∀ a∈fp,a∉L::ρ) (f3:∀ a∈fp,s0.heap.objs.size<=a) (h0:Inv 0 m σ) :
  codeAny (model prog w) A (.forLoop t it b [] env) (fun r s'=>match r with | .ok f=>PF w own0 L ρ0 s0 Q f s' | .error e=>E' e s') s:=by
 refine codeAny_forLoop_any (fun j s'=>∃ k own1 ρ1 m1 σ1,j=items.length - k/\k<=items.length/\Step own0 L ρ0 s0 own1 ρ1 s'/\In w K mb env F own1 L ρ1 m1 σ1 s'/\qY w own1 ρ1 s'.heap items fp it k/\(∀ a∈fp,a∈own1)/\(∀ a∈fp,a∉L::ρ1)/\Inv k m1 σ1) ?_
  items.length ⟨0,own,ρ,m,σ,rfl,Nat.zero_le _,y0,I,It,f1,f2,h0⟩
 intro j s1 zq;apply gk;intro J;obtain ⟨k,own1,ρ1,m1,σ1,rfl,hk,y1,I1,It1,g1,g2,hI⟩:=zq;apply J;clear J;by_cases hlt:k < items.length
 ·obtain ⟨x,hx⟩:∃ x,items[k]?=some x:=⟨_,List.getElem?_eq_getElem hlt⟩
  refine wpAny_mono (item_ok hA ht It1 hx g1 I1.S.lt) (fun res s2 zz0=>?_) fun _ _ x=>x.elim;apply gk;intro J;obtain ⟨v,e,n2,d2,h2⟩:=zz0;apply J;clear J;subst e;have I2:=I1.nx n2 g1 g2;have y2:=y1.nx n2 f3;refine wpAny_mono h2 (fun _ s3 zz0=>?_) fun _ _ x=>x.elim;apply gk;intro J;obtain ⟨n3,It3⟩:=zz0;have I3:=I2.nx n3 g1 g2;have y3:=y2.nx n3 f3;have d3:Den w own1 ρ1 s3.heap x v:=d2.mono (n3.ev g1) (fun _ _ q=>q);obtain ⟨bs,hb,hl,_⟩:=turn k x m1 σ1 own1 ρ1 s3 hx hI;apply J;clear J;refine wpAny_mono (bind_ok (P:=fun _ s'=>Step own1 L ρ1 s3 own1 ρ1 s'/\In w K mb env F own1 L ρ1 (xN m1 bs) σ1 s') hA hb hl I3 d3 fun s' x' I'=>⟨x',I'⟩) (fun _ s4 zz0=>?_) fun _ _ x=>x.elim;apply gk;intro J;obtain ⟨x4,I4⟩:=zz0;obtain ⟨bs',hb',hl',hw⟩:=turn k x m1 σ1 own1 ρ1 s4 hx hI;apply J;clear J;rw [hb] at hb';cases hb';refine wpAny_mono (hw I4) (fun f s5 zz0=>?_) fun _ _ x=>x.elim;apply gk;intro J;obtain ⟨o5,r5,fl,m5,σ5,x5,S5,d5,q5⟩:=zz0;apply J;clear J;have xx:=x4.trans x5;have I5:=I4.next x5 S5;have y5:=y3.trans xx;have fin:Inv (k+1) m5 σ5->∃ j,j < items.length - k/\∃ k own1 ρ1 m1 σ1,j=items.length - k/\k<=items.length/\Step own0 L ρ0 s0 own1 ρ1 s5/\In w K mb env F own1 L ρ1 m1 σ1 s5/\qY w own1 ρ1 s5.heap items fp it k/\(∀ a∈fp,a∈own1)/\(∀ a∈fp,a∉L::ρ1)/\Inv k m1 σ1:=fun hI'=>by
   refine ⟨items.length - (k+1),by omega,k+1,o5,r5,m5,σ5,rfl,hlt,y5,I5,?_,fun a q=>xx.sub a (g1 a q),fun a q z=>?_,hI'⟩
   ·exact It3.frame (fun a q o e=>xx.keep a o e (g2 a q)) (xx.ev I3.S.sub) xx.pre
   ·rcases List.mem_cons.mp z with z | z
    ·exact g2 a q (z ▸ .head _)
    ·exact xx.newρ a (I3.S.lt a (g1 a q)) (fun z=>g2 a q (.tail _ z)) z
  induction fl using Mine.Fl.casesOn with
  | next=>refine rwp (show f=.next from d5) ?_;exact fin q5
  | cont=>refine rwp (show f=.cont from d5) ?_;exact fin q5
  | brk=>refine rwp (show f=.brk from d5) ?_;exact ⟨o5,r5,.next,m5,σ5,y5,S5,rfl,q5⟩
  | ret c=>obtain ⟨v,e,d⟩:=d5;refine rwp e ?_;exact ⟨o5,r5,.ret c,m5,σ5,y5,S5,⟨v,rfl,d⟩,q5⟩
 ·have hk':k=items.length:=by exact Nat.le_antisymm (by assumption) (Nat.le_of_not_lt (by assumption))
  subst hk';refine wpAny_mono (end_ok hA It1 g1) (fun res s2 zz0=>?_) fun _ _ x=>x.elim;apply gk;intro J;obtain ⟨e,n2⟩:=zz0;apply J;clear J;subst e;have I2:=I1.nx n2 g1 g2;have y2:=y1.nx n2 f3;exact wpAny_execs_nil ⟨own1,ρ1,.next,m1,σ1,y2,I2.S,rfl,done m1 σ1 hI⟩
theorem forX_ok{own0 ρ0:List Addr}{s0:Shared}{ln:Nat}{t:Expr}{items:List V}{fp:List Addr}{it:Value}{b:List Stmt}{Q:Fl->Loc->List O->Prop}{E':Value->Shared->Prop}
  (hSs:∀ k,k < n->SndSs prog w K mb R T k) (h:wpX T n F ln t items b m σ Q)
  (hA:AOk (R+n / 2) A) (ht:okTarget t fp)
  (y0:Step own0 L ρ0 s0 own ρ s) (I:In w K mb env F own L ρ m σ s) (It:qY w own ρ s.heap items fp it 0) (f1:∀ a∈fp,a∈own) (f2:∀ a∈fp,a∉L::ρ) (f3:∀ a∈fp,s0.heap.objs.size<=a) :
  codeAny (model prog w) A (.forLoop t it b [] env) (fun r s'=>match r with | .ok f=>PF w own0 L ρ0 s0 Q f s' | .error e=>E' e s') s:=by
 induction n using Nat.casesAuxOn with
 | zero=>exact h.elim
 | succ n =>
  have hA':AOk (R+n / 2) A:=hA.less (by lia);cases hf:T.unroll.contains ln with
  | false =>
   apply gk;intro J;obtain ⟨Inv,h0,h1,h2⟩:=ifW_F h hf;apply J;clear J;refine forG_ok (Inv:=Inv) hA' ht (fun k x m2 σ2 own2 ρ2 s2 hx hI=>?_) h2 y0 I It f1 f2 f3 h0;apply gk;intro J;obtain ⟨bs,hb,h3⟩:=zN (h1 k x m2 σ2 hx hI);apply J;clear J;exact ⟨bs,hb,h3.1,fun I2=>hSs n (Nat.lt_succ_self _) h3.2 hA' I2⟩
  | true =>
   refine forG_ok (Inv:=fun k m σ=>∃ j,j<=n+1/\wpX T j F ln t (items.drop k) b m σ Q) hA ht (fun k x m2 σ2 own2 ρ2 s2 hx ⟨j,hj,hI⟩=>?_) (fun m2 σ2 ⟨j,hj,hI⟩=>?_) y0 I It f1 f2 f3 ⟨n+1,Nat.le_refl _,by refine rwp List.drop_zero ?_;exact h⟩
   ·have hlt:k < items.length:=(List.getElem?_eq_some_iff.mp hx).1;rw [List.drop_eq_getElem_cons hlt] at hI;have hxe:items[k]=x:=by rw [List.getElem?_eq_getElem hlt] at hx;exact Option.some.inj hx
    rw [hxe] at hI;induction j using Nat.casesAuxOn with
    | zero=>exact hI.elim
    | succ j =>
     apply gk;intro J;obtain ⟨bs,hb,hI⟩:=zN (ifW_T hI hf);apply J;clear J;refine ⟨bs,hb,hI.1,fun I2=>wpAny_mono (hSs j (by assumption) hI.2 (hA.less (by lia)) I2) (fun f s3 zz=>?_) fun _ _ x=>x⟩;apply gk;intro J;obtain ⟨o3,r3,fl,m3,σ3,x3,S3,d3,q3⟩:=zz;apply J;clear J;refine ⟨o3,r3,fl,m3,σ3,x3,S3,d3,?_⟩;induction fl using Mine.Fl.casesOn with
     | next=>exact ⟨j,by exact Nat.le_of_succ_le (by assumption),q3⟩
     | cont=>exact ⟨j,by exact Nat.le_of_succ_le (by assumption),q3⟩
     | brk=>exact q3
     | ret v=>exact q3
   ·rw [List.drop_length] at hI;induction j using Nat.casesAuxOn with
    | zero=>exact hI.elim
    | succ j =>
     exact ifW_T hI hf
theorem folded_ok{e:Expr}{a:Value}(h:∀ es k p,e≠.Set es k p):foldedSetIterable e env a=pure a:=by
 induction e using PySem.Expr.casesOn <;> first | rfl | exact absurd rfl (h _ _ _)
theorem notSet{e:Expr}{Q:V->List O->Prop}(h:wpE T n F e m σ Q):∀ es k p,e≠.Set es k p:=by
 intro es k p q;subst q;induction n using Nat.casesAuxOn <;> exact h.elim
inductive EnumR(w:World)(K:Frag)(mb:Str->Option Value)(env:Env)(F:Fra)(L:Addr)(m:Loc)(own ρ:List Addr)(s:Shared)(P:List V->List O->Prop)(va:Value)(s1:Shared):Prop
 | mk (o1 r1:List Addr) (σ1:List O) (vs items:List V) (fp:List Addr) (x1:Step own L ρ s o1 r1 s1) (I1:In w K mb env F o1 L r1 m σ1 s1) (ei:items=kS vs) (hq:P items σ1) (It:qY w o1 r1 s1.heap items fp va 0)
  (f1:∀ a∈fp,a∈o1) (f2:∀ a∈fp,a∉L::r1) (f3:∀ a∈fp,s.heap.objs.size<=a)
theorem For_ok(hTb:TabsOk prog w K mb R T)(hE:qQ prog w K mb R T n)(hSs:∀ k,k<=n->SndSs prog w K mb R T k):SndFor prog w K mb R T n:=by
 intro F t it b p m σ Q A env own L ρ s h hA I;have hA':AOk (R+n / 2+1) A:=hA.less (by simp +arith [*]);cases he:kI it with
 | some e =>
  apply gk;intro J;obtain ⟨h1,h2⟩:=jF (o:=kI it) h he;obtain ⟨h3,h2⟩:=yE h2;obtain ⟨h4,h5⟩:=Bool.and_eq_true_iff.mp h3;obtain ⟨fp0,cp,ei⟩:=enumArg_of he;apply J;clear J;refine rwp ei ?_;refine wpAny_For (wpAny_mono (?_:wpAny (model prog w) A (eval (.Call (.Name "enumerate" fp0) [e] [] cp) env) (EnumR w K mb env F L m own ρ s fun items σ1=>wpX T n F p.line t items b m σ1 Q) noE s) (fun va s1 zz=>?_) fun _ _ x=>x) (fun x=>folded_ok (fun _ _ _ q=>by cases q))
  ·skip
   refine wpAny_bind (wpAny_Name (wpAny_mono (name_ok hTb h1 I) (fun fv s1 zz0=>?_) fun _ _ x=>x) rfl);apply gk;intro J;obtain ⟨c,g1,dc,ec⟩:=zz0;apply J;clear J;subst ec;refine rwp (show fv=.type "enumerate" from dc) ?_;have I1:=I.grow g1;have hse:starEach [e] env=[(false,eval e env)]:=by induction e using PySem.Expr.casesOn <;> first | rfl | cases h4
   refine rwp hse ?_;refine qD rfl ?_;show wpAny _ A (spliced [(false,eval e env)]) _ _ _
   rw [spliced];refine PV.go I1 (hE h2 hA' I1) fun o2 r2 c σ2 v s2 x2 I2 d2 q2=>?_;apply gk;intro J;obtain ⟨vs,ev,q2⟩:=zN q2;apply J;clear J;rw [jA ev] at d2;simp only [Bool.false_eq_true,if_false];refine wpAny_bind (wpAny_pure (wpAny_bind (wpAny_holding (wpAny_pure (wpAny_pure ⟨⟨.machine,.now⟩,?_⟩)))));apply gk;intro J;obtain ⟨l,its,nn,rfl,nl,gl,dl⟩:=d2;apply J;clear J;refine up<|call_enumerate_1 gl fun h' he' hit' hz hk=>?_
   have g3:Grow s2 { s2 with heap:=h' }:=⟨rfl,rfl,by show _<=h'.objs.size;simp_all,hk⟩
   have I3:=I2.hide g3 (fp:=[s2.heap.objs.size+1,s2.heap.objs.size]) (fun a q=>by
    have:a=s2.heap.objs.size+1\/a=s2.heap.objs.size:=by simpa using q
    refine rwp hz ?_;rcases this with rfl | rfl
    ·exact ⟨Nat.le_succ _,Nat.lt_succ_self _⟩
    ·exact ⟨Nat.le_refl _,Nat.lt_succ_of_lt (Nat.lt_succ_self _)⟩)
   have hb:∀ a,a∈[s2.heap.objs.size+1,s2.heap.objs.size]->s2.heap.objs.size<=a:=fun a q=>by
    have:a=s2.heap.objs.size+1\/a=s2.heap.objs.size:=by simpa using q
    rcases this with rfl | rfl
    ·exact Nat.le_succ _
    ·exact Nat.le_refl _
   have ev:=(I2.hideStep g3 hb).ev I2.S.sub;refine ⟨_,r2,σ2,vs,_,[s2.heap.objs.size+1,s2.heap.objs.size],((g1.step _ _ _).trans x2).trans (I2.hideStep g3 hb),I3,rfl,q2,.enm (Nat.succ_ne_self _) he' hit' (ev _ _ gl nl).2 (ev _ _ gl nl).1 (dl.mono ev (fun _ _ q=>q)) rfl,fun a q=>List.mem_append_right _ q,fun a q z=>Nat.lt_irrefl _ (Nat.lt_of_lt_of_le (I2.S.lt a (I2.S.sub a z)) (hb a q)),fun a q=>Nat.le_trans (Nat.le_trans g1.size x2.size) (hb a q)⟩
  ·apply gk;intro J;obtain ⟨o1,r1,σ1,vs,items,fp,x1,I1,ei,hq,It,f1,f2,f3⟩:=zz;apply J;clear J;refine wpAny_pyIter_self It ?_;exact forX_ok (n:=n) (fun k hk=>hSs k (by exact Nat.le_of_succ_le (by assumption))) hq (hA'.less (by exact Nat.le_succ _)) (fun _=>h5) x1 I1 It f1 f2 f3
 | none =>
  have h:=jG (o:=kI it) h he;refine wpAny_For (wpAny_mono (hE h hA' I) (fun va s1 zz0=>?_) fun _ _ x=>x) (fun x=>folded_ok (notSet h));apply gk;intro J;obtain ⟨o1,r1,a,σ1,x1,S1,d1,q1⟩:=zz0;have I1:=I.next x1 S1;obtain ⟨vs,hvs,q1⟩:=zN q1;apply J;clear J;refine wpAny_mono (iter_ok hA' hvs d1 S1.lt) (fun itv s2 zz0=>?_) fun _ _ x=>x;apply gk;intro J;obtain ⟨fp,hfp,g2,sz2,It⟩:=zz0;apply J;clear J;have I2:=I1.hide g2 sz2;have x2:=I1.hideStep g2 (fun a q=>(sz2 a q).1);exact forX_ok (n:=n) (fun k hk=>hSs k (by exact Nat.le_of_succ_le (by assumption))) q1 (hA'.less (by exact Nat.le_succ _)) (fun q=>by rw [hfp] at q;cases q) (x1.trans x2) I2 It (fun a q=>List.mem_append_right _ q) (fun a q z=>Nat.lt_irrefl _ (Nat.lt_of_lt_of_le (S1.lt a (S1.sub a z)) (sz2 a q).1)) (fun a q=>Nat.le_trans x1.size (sz2 a q).1)
end
end Mine
end
section
set_option tactic.hygienic false
namespace Mine
section
variable{prog:Program}{w:World}{K:Frag}{mb:Str->Option Value}{A:Around}{own ρ:List Addr}{L:Addr}{m:Loc}{σ:List O}{s:Shared}{R n r:Nat}{T:Tabs}{F:Fra}{env:Env}
structure CompOk(F:Fra)(sc:Scope):Prop where
 kind:sc.kind=.function
 names:∀ p∈sc.names,(p.2=.local/\sc.names.lookup p.1=some .local)\/p.2=.globalImplicit\/(p.2=.free/\F.names.lookup p.1=some .cell/\∃ i,F.cells.lookup p.1=some i)
 one:(sc.names.filter fun p=>p.2==.free).length<=1
theorem compOk_of{sc:Scope}(h:compOk F sc=true):CompOk F sc:=by
 unfold compOk at h;simp only [Bool.and_eq_true] at h;obtain ⟨⟨h1,h2⟩,h3⟩:=h;refine ⟨by simpa using h1,fun p hp=>?_,Nat.le_of_ble_eq_true h3⟩;have:=List.all_eq_true.mp h2 p hp;simp only [Bool.or_eq_true,Bool.and_eq_true,beq_iff_eq] at this;rcases this with (h | h) | h
 ·exact .inl ⟨h.1,h.2⟩
 ·exact .inr (.inl h)
 ·exact .inr (.inr ⟨h.1.1,h.1.2,Option.isSome_iff_exists.mp h.2⟩)
theorem comp_env{sc:Scope}(C:CompOk F sc)(E:EnvOk K env F L ρ):∃ cl,closureFor sc env=pure cl/\∀ Ca,EnvOk K (compEnvC sc cl Ca env) (zP F sc) Ca ρ:=by
 have hc:=closure_ok (env:=env) sc.names [] (fun (x,k) c=>if (k==NameKind.free)=true then (do let a <- cellOf env x;pure (.yield ((x,a)::c))) else pure (.yield c)) (fun _ _ _=>rfl) (fun p hp q=>by
  rcases C.names p hp with h | h | h
  ·rw [h.1] at q;cases q
  ·rw [h] at q;cases q
  ·obtain ⟨_,_,i,hi⟩:=h;obtain ⟨c,hc,_⟩:=E.cells p.1 i hi;exact ⟨c,hc⟩)
 refine ⟨((sc.names.filter fun p=>p.2==.free).filterMap fun p=>(env.cells.lookup p.1).map (p.1,·)).reverse,?_,fun Ca=>?_⟩
 ·skip
  simp only [List.append_nil] at hc;show (forIn sc.names [] (fun x c=>if (x.2==NameKind.free)=true then (do let a <- cellOf env x.1;pure (.yield ((x.1,a)::c))) else pure (.yield c)) >>= fun c=>pure c:Sem (List (Str×Addr)))=_
  refine rwp (show (forIn sc.names [] (fun x c=>if (x.2==NameKind.free)=true then (do let a <- cellOf env x.1;pure (.yield ((x.1,a)::c))) else pure (.yield c)):Sem (List (Str×Addr)))=_ from hc) ?_;rfl
 ·refine ⟨?_,?_,rfl,E.globals,E.builtins,fun x i hx=>?_,fun _ e=>by cases e⟩
  ·show sc.kind=_;exact C.kind
  ·skip
   refine List.map_congr_left fun p hp=>?_;obtain ⟨y,k⟩:=p;rcases C.names _ hp with h | h | h
   ·have:k=.local:=h.1;subst this;rfl
   ·have:k=.globalImplicit:=h;subst this;rfl
   ·have:k=.free:=h.1;subst this;have h2:F.names.lookup y=some .cell:=h.2.1;simp [E.kind,E.kindOf,h2]
  ·have hone:=C.one;have hx:((sc.names.filter fun p=>p.2==.free).filterMap fun p=>(F.cells.lookup p.1).map (p.1,·)).lookup x=some i:=hx
   match hfl:sc.names.filter fun p=>p.2==.free,hone with
   | [],_=>rw [hfl] at hx;cases hx
   | [p],_ =>
    rw [hfl] at hx;have hp:p∈sc.names:=(List.mem_filter.mp (hfl ▸ List.mem_singleton.mpr rfl:p∈sc.names.filter fun p=>p.2==.free)).1;refine rwp hfl ?_;rw [fm1];rw [fm1] at hx;cases hi:F.cells.lookup p.1 with
    | none=>rw [hi] at hx;cases hx
    | some j =>
     obtain ⟨c,h1,h2⟩:=E.cells p.1 j hi;rw [hi] at hx;refine rwp h1 ?_;have hx:List.lookup x [(p.1,j)]=some i:=hx;show ∃ c',List.lookup x [(p.1,c)]=some c'/\ρ[i]?=some c'
     rw [List.lookup_cons] at hx ⊢;cases hb:x==p.1 with
     | true=>rw [hb] at hx;cases hx;exact ⟨c,rfl,h2⟩
     | false=>rw [hb] at hx;cases hx
   | _::_::_,_=>rw [hfl] at hone;exact absurd hone (Nat.not_le_of_lt (Nat.succ_lt_succ (Nat.succ_pos _)))
theorem Sat.nil(S:Sat w own L ρ m σ s.heap):Sat w own L ρ [] σ s.heap:=⟨S.len,S.nodup,S.nl,S.sub,S.lt,S.objs,let ⟨mm,n,_⟩:=S.fr;⟨mm,n,fun _ _ e=>by cases e⟩⟩
theorem compL_ok{oi:Option Nat}{elt t iter:Expr}{sc:Scope}{cl:List (Str×Addr)}{pos:Pos}{items:List V}{fp:List Addr}{it:Value}{RR:Value->Addr->Result->Shared->Prop}{E':Value->Shared->Prop}{Inv:Nat->List V->List O->Prop}
  (hA:AOk r A) (ht:okTarget t fp) (C:CompOk F sc) (hE:∀ Ca,EnvOk K (compEnvC sc cl Ca env) (zP F sc) Ca ρ) (hsz:items.length<=1000000)
  (turn:∀ k x us σ own ρ Ca s,items[k]?=some x->Inv k us σ->∃ bs,vC t x=some bs/\xO (zP F sc) bs=true/\(In w K mb (compEnvC sc cl Ca env) (zP F sc) own Ca ρ (xN [] bs) σ s ->
   wpAny (model prog w) A (eval elt (compEnvC sc cl Ca env)) (PV w own Ca ρ (xN [] bs) s fun u σ2=>Inv (k+1) (us++[u]) σ2) noE s))
  {s0:Shared} (I:In w K mb env F own L ρ m σ s0) (g0:Grow s0 s) (hfp0:∀ a∈fp,s0.heap.objs.size<=a/\a < s.heap.objs.size) (It:IterG oi w (own++fp) ρ s.heap items fp it 0) (h0:Inv 0 [] σ) (hOw:∀ i,oi=some i->∀ k us σ,Inv k us σ->σ[i]?=some (.list items))
  (hRR:∀ D Ca own' ρ' us σ' its s',Step own L ρ s0 own' ρ' s'->In w K mb env F own' L ρ' m σ' s'->Ca∈own'->s0.heap.objs.size<=Ca->Ca∉L::ρ'->(∃ m',s'.heap.Ns Ca m')->D∉own'->D≠Ca->(∃ n,s'.heap.get? D=some (listOf its n))->DenL w own' ρ' s'.heap us its.toList->Inv items.length us σ'->RR (.ref D) Ca (.ok .next) s') :
  wpAny (model prog w) A (PySem.newList []) (fun acc s₃=>wpAny (model prog w) A (newFunctionEnv sc env.globals cl [] env.qual none .none (some env)) (fun cenv s₄ =>
   codeAny (model prog w) A (.compStart (.ListComp elt [⟨t,iter,[],0⟩] sc pos) 0 it acc { cenv with scope:=relabel sc env }) (RR acc cenv.locals) s₄) E' s₃) E' s:=by
 have hcell:∀ x∈sc.names,x.2≠.cell:=fun x hx q=>by
  rcases C.names x hx with h | h | h
  ·rw [h.1] at q;cases q
  ·rw [h] at q;cases q
  ·rw [h.1] at q;cases q
 unfold PySem.newList;refine up<|wpAny_newObj_type (up<|wpAny_newFunctionEnv hcell (by intro y hy;simp at hy) (fun h₁ hns hsb=>?_) C.kind)
 dsimp only at hns hsb ⊢;generalize hH2:s.heap.push { cls:=.type "list",dict:=none,data:=.seq ([]:List Value).toArray }=H2 at hns hsb ⊢;have hC:H2.objs.size=s.heap.objs.size+1:=by rw [<- hH2,Heap.size_push]
 have hz:h₁.objs.size=s.heap.objs.size+2:=by rw [hsb.1,Heap.size_push,hC]
 have old:∀ b o,s.heap.get? b=some o->h₁.get? b=some o:=fun b o e=>hsb.extBut b o (by rw [hC];exact Nat.ne_of_lt (Nat.lt_succ_of_lt (Heap.lt_size e))) (Heap.get?_push_of_some _ (hH2 ▸ Heap.get?_push_of_some _ e));have hD:h₁.get? s.heap.objs.size=some (listOf #[] 0):=hsb.extBut _ _ (by rw [hC];exact Nat.ne_of_lt (Nat.lt_succ_self _)) (Heap.get?_push_of_some _ (hH2 ▸ Heap.get?_push_size _ rfl));rw [hC] at hns ⊢;generalize hs2:({ s with heap:=h₁,toks:=s.toks+([]:List (Str×Value)).length }:Shared)=s2;have e2:s2.heap=h₁:=by rw [<- hs2]
 have g1:Grow s s2:=by rw [<- hs2];exact ⟨rfl,rfl,by show _<=h₁.objs.size;rw [hz];exact Nat.le_add_right _ _,old⟩
 have g:=g0.trans g1;have hdc:∀ a∈[s.heap.objs.size,s.heap.objs.size+1],s.heap.objs.size<=a/\a < s2.heap.objs.size:=fun a q=>by
  have:a=s.heap.objs.size\/a=s.heap.objs.size+1:=by simpa using q
  rw [e2,hz];rcases this with rfl | rfl
  ·exact ⟨Nat.le_refl _,Nat.lt_succ_of_lt (Nat.lt_succ_self _)⟩
  ·exact ⟨Nat.le_succ _,Nat.lt_succ_self _⟩
 have hfp:∀ a∈fp++[s.heap.objs.size,s.heap.objs.size+1],s0.heap.objs.size<=a/\a < s2.heap.objs.size:=fun a q=>by
  rcases List.mem_append.mp q with q | q
  ·exact ⟨(hfp0 a q).1,Nat.lt_of_lt_of_le (hfp0 a q).2 g1.size⟩
  ·exact ⟨Nat.le_trans g0.size (hdc a q).1,(hdc a q).2⟩
 have I1:=I.hide g hfp;have x1:=I.hideStep g (fun a q=>(hfp a q).1);have fr:∀ a,a∈L::ρ->a < s0.heap.objs.size:=fun a q=>I.S.lt a (I.S.sub a q);have fr':∀ a,a∈L::ρ->a < s.heap.objs.size:=fun a q=>Nat.lt_of_lt_of_le (fr a q) g0.size;generalize hown:own++(fp++[s.heap.objs.size,s.heap.objs.size+1])=ownA at I1 x1;have mC:s.heap.objs.size+1∈ownA:=by rw [<- hown];exact List.mem_append_right _ (List.mem_append_right _ (.tail _ (.head _)))
 have mD:s.heap.objs.size∈ownA:=by rw [<- hown];exact List.mem_append_right _ (List.mem_append_right _ (.head _))
 have mF:∀ a∈fp,a∈ownA:=fun a q=>by rw [<- hown];exact List.mem_append_right _ (List.mem_append_left _ q)
 have J1:In w K mb (compEnvC sc cl (s.heap.objs.size+1) env) (zP F sc) ownA (s.heap.objs.size+1) ρ [] σ s2:=by
  refine ⟨⟨I1.S.len,I1.S.nodup,fun q=>Nat.not_succ_le_self _ (Nat.le_of_lt (fr' _ (.tail _ q))),fun a q=>?_,I1.S.lt,I1.S.objs,⟨_,by rw [e2];exact hns,fun _ _ e=>by cases e⟩⟩,I1.st,hE _⟩;rcases List.mem_cons.mp q with q | q
  ·rw [q];exact mC
  ·exact I1.S.sub a (.tail _ q)
 have x1':Step own (s.heap.objs.size+1) ρ s0 ownA ρ s2:=⟨x1.gens,x1.os,x1.sub,x1.new,x1.pre,x1.newρ,x1.size,fun a o e _=>g.keep _ _ e⟩
 have evA:Ev (own++fp) s.heap ownA s2.heap:=fun a o e q=>⟨g1.keep _ _ e,fun z=>by
  rw [<- hown] at z;rcases List.mem_append.mp z with z | z
  ·exact q (List.mem_append_left _ z)
  ·rcases List.mem_append.mp z with z | z
   ·exact q (List.mem_append_right _ z)
   ·exact Nat.lt_irrefl _ (Nat.lt_of_lt_of_le (Heap.lt_size e) (hdc a z).1)⟩
 have It1:IterG oi w ownA ρ s2.heap items fp it 0:=It.frame (fun _ _ o e=>g1.keep _ _ e) evA (fun _ _ q=>q);have fC:∀ a∈fp,a∉(s.heap.objs.size+1)::ρ:=fun a q z=>by
  rcases List.mem_cons.mp z with z | z
  ·exact Nat.not_succ_le_self _ (Nat.le_of_lt (z ▸ (hfp0 a q).2))
  ·exact Nat.lt_irrefl _ (Nat.lt_of_lt_of_le (fr a (.tail _ z)) (hfp0 a q).1)
 have f3:∀ a∈fp,s0.heap.objs.size<=a:=fun a q=>(hfp0 a q).1;have f4:∀ a∈[s.heap.objs.size],s0.heap.objs.size<=a:=fun a q=>by rw [List.mem_singleton.mp q];exact g0.size
 have f5:∀ a∈fp,a≠s.heap.objs.size:=fun a q=>Nat.ne_of_lt (hfp0 a q).2;have loop:codeAny (model prog w) A (.compLoop (.ListComp elt [⟨t,iter,[],0⟩] sc pos) 0 it (.ref s.heap.objs.size) (compEnvC sc cl (s.heap.objs.size+1) env)) (RR (.ref s.heap.objs.size) (s.heap.objs.size+1)) s2:=by
  refine kcp_loop (fun j s'=>∃ k own1 ρ1 us σ1 its nn,j=items.length - k/\k<=items.length/\us.length=k/\Step own (s.heap.objs.size+1) ρ s0 own1 ρ1 s'/\In w K mb (compEnvC sc cl (s.heap.objs.size+1) env) (zP F sc) own1 (s.heap.objs.size+1) ρ1 [] σ1 s' /\
   IterG oi w own1 ρ1 s'.heap items fp it k/\(∀ a∈fp,a∈own1)/\(∀ a∈fp,a∉(s.heap.objs.size+1)::ρ1)/\s.heap.objs.size∈own1/\s.heap.objs.size∉(s.heap.objs.size+1)::ρ1/\s'.heap.get? s.heap.objs.size=some (listOf its nn) /\
   DenL w own1 ρ1 s'.heap us its.toList/\Inv k us σ1) ?_ items.length
   ⟨0,_,ρ,[],σ,#[],0,rfl,Nat.zero_le _,rfl,x1',J1,It1,mF,fC,mD,fun z=>?_,by rw [e2];exact hD,rfl,h0⟩
  ·intro j s1 zq;apply gk;intro J;obtain ⟨k,own1,ρ1,us,σ1,its,nn,rfl,hk,hul,y1,I1,It1,g1,g2,d1,d2,hDg,hDl,hI⟩:=zq;apply J;clear J;have hO1:OwnAt oi w own1 ρ1 s1.heap items:=fun i a e q=>by
    apply gk;intro J;obtain ⟨o,g,its,n,e2,d⟩:=I1.S.objs i _ a (hOw i e k us σ1 hI) q;apply J;clear J;subst e2;exact ⟨its,n,g,d⟩
   by_cases hlt:k < items.length
   ·obtain ⟨x,hx⟩:∃ x,items[k]?=some x:=⟨_,List.getElem?_eq_getElem hlt⟩
    refine wpAny_mono (item_okG hA ht It1 hO1 hx g1 I1.S.lt) (fun res s2 zz0=>?_) fun _ _ x=>x.elim;apply gk;intro J;obtain ⟨v,e,n2,dx,h2⟩:=zz0;apply J;clear J;subst e;have I2:=I1.nx n2 g1 g2;have y2:=y1.nx n2 f3;refine wpAny_mono h2 (fun _ s3 zz0=>?_) fun _ _ x=>x.elim;apply gk;intro J;obtain ⟨n3,It3⟩:=zz0;have I3:=I2.nx n3 g1 g2;have y3:=y2.nx n3 f3;have n23:=n2.trans n3;have d3:Den w own1 ρ1 s3.heap x v:=dx.mono (n3.ev g1) (fun _ _ q=>q);have hDg3:=n23.keep _ _ hDg (fun q=>f5 _ q rfl);have hDl3:=hDl.mono (n23.ev g1) (fun _ _ q=>q);obtain ⟨bs,hb,hl,hw⟩:=turn k x us σ1 own1 ρ1 (s.heap.objs.size+1) s3 hx hI;apply J;clear J;refine wpAny_mono (bind_ok (P:=fun _ s'=>Step own1 (s.heap.objs.size+1) ρ1 s3 own1 ρ1 s'/\In w K mb (compEnvC sc cl (s.heap.objs.size+1) env) (zP F sc) own1 (s.heap.objs.size+1) ρ1 (xN [] bs) σ1 s') hA hb hl I3 d3 fun s' x' I'=>⟨x',I'⟩) (fun _ s4 zz0=>?_) fun _ _ x=>x.elim;apply gk;intro J;obtain ⟨x4,I4⟩:=zz0;obtain ⟨bs',hb',hl',hw⟩:=turn k x us σ1 own1 ρ1 (s.heap.objs.size+1) s4 hx hI;apply J;clear J;rw [hb] at hb';cases hb';refine wpAny_mono (hw I4) (fun u s5 zz0=>?_) fun _ _ x=>x.elim;apply gk;intro J;obtain ⟨o5,r5,c,σ5,x5,S5,d5,q5⟩:=zz0;apply J;clear J;have xx:=x4.trans x5;have y5:=y3.trans xx;have I5:=I4.next x5 S5;have hDg5:=xx.keep _ _ hDg3 d2;have hDl5:=hDl3.mono (xx.ev I3.S.sub) xx.pre;have d1':=xx.sub _ d1;have d2':s.heap.objs.size∉(s.heap.objs.size+1)::r5:=fun z=>by
     rcases List.mem_cons.mp z with z | z
     ·exact d2 (z ▸ .head _)
     ·exact xx.newρ _ (I3.S.lt _ d1) (fun z=>d2 (.tail _ z)) z
    refine up<|append_at hDg5 (fun h6 hs6 hDg6=>?_) (by
     have:=hDl5.length;have e:its.toList.length=its.size:=rfl;rw [e] at this;have:sizeLine=16777216:=rfl;lia)
    have n6:Nx [s.heap.objs.size] s5 { s5 with heap:=h6 }:=⟨rfl,rfl,Nat.le_of_eq hs6.1.symm,fun b o e n=>(hs6.2 b fun q=>n (q ▸ .head _)).trans e⟩
    have m6:∀ a∈[s.heap.objs.size],a∈o5:=fun a q=>by rw [List.mem_singleton.mp q];exact d1'
    have k6:∀ a∈[s.heap.objs.size],a∉(s.heap.objs.size+1)::r5:=fun a q=>by rw [List.mem_singleton.mp q];exact d2'
    have I6:=I5.nx n6 m6 k6;have y6:=y5.nx n6 f4;have I6':In w K mb (compEnvC sc cl (s.heap.objs.size+1) env) (zP F sc) o5 (s.heap.objs.size+1) r5 [] σ5 { s5 with heap:=h6 }:=⟨I6.S.nil,I6.st,I6.E⟩
    have g1':∀ a∈fp,a∈o5:=fun a q=>xx.sub a (g1 a q);have g2':∀ a∈fp,a∉(s.heap.objs.size+1)::r5:=fun a q z=>by
     rcases List.mem_cons.mp z with z | z
     ·exact g2 a q (z ▸ .head _)
     ·exact xx.newρ a (I3.S.lt a (g1 a q)) (fun z=>g2 a q (.tail _ z)) z
    refine ⟨items.length - (k+1),by lia,k+1,o5,r5,us++[c],σ5,its.push u,nn+1,rfl,hlt,by rw [List.length_append,hul];rfl,y6,I6',?_,g1',g2',d1',d2',hDg6,?_,q5⟩
    ·have It5:=It3.frame (fun a q o e=>xx.keep a o e (g2 a q)) (xx.ev I3.S.sub) xx.pre;exact It5.frame (fun a q o e=>n6.keep a o e fun z=>f5 a q (List.mem_singleton.mp z)) (n6.ev m6) (fun _ _ q=>q)
    ·rw [Array.toList_push];exact DenL.append (hDl5.mono (n6.ev m6) (fun _ _ q=>q)) (DenL.cons (d5.mono (n6.ev m6) (fun _ _ q=>q)) rfl)
   ·have hk':k=items.length:=by exact Nat.le_antisymm (by assumption) (Nat.le_of_not_lt (by assumption))
    subst hk';refine wpAny_mono (end_okG hA It1 hO1 g1) (fun res s2 zz0=>?_) fun _ _ x=>x.elim;apply gk;intro J;obtain ⟨e,n2⟩:=zz0;apply J;clear J;subst e;have I2:=I1.nx n2 g1 g2;have y2:=y1.nx n2 f3;have hDg2:=n2.keep _ _ hDg (fun q=>f5 _ q rfl);have hDl2:=hDl.mono (n2.ev g1) (fun _ _ q=>q);have hCm:s.heap.objs.size+1∈own1:=I2.S.sub _ (.head _);have fm:∀ a,a∈own1.filter (fun a=>!(a==s.heap.objs.size))<->a∈own1/\a≠s.heap.objs.size:=fun a=>by rw [List.mem_filter];simp
    have ev:Ev own1 s2.heap (own1.filter fun a=>!(a==s.heap.objs.size)) s2.heap:=Ev.less fun a q=>((fm a).mp q).1;have nD:∀ a,a < s.heap.objs.size->a≠s.heap.objs.size:=fun a q=>Nat.ne_of_lt q;have y3:Step own L ρ s0 (own1.filter fun a=>!(a==s.heap.objs.size)) ρ1 s2:=⟨y2.gens,y2.os,fun a q=>(fm a).mpr ⟨y2.sub a q,nD a (Nat.lt_of_lt_of_le (I.S.lt a q) g0.size)⟩,fun a l q z=>y2.new a l q ((fm a).mp z).1,y2.pre,y2.newρ,y2.size,fun a o e q=>y2.keep a o e fun z=>by
     rcases List.mem_cons.mp z with z | z
     ·rw [z] at e;exact Nat.not_succ_le_self _ (Nat.le_of_lt (Nat.lt_of_lt_of_le (Heap.lt_size e) g0.size))
     ·exact q (.tail _ z)⟩
    have hL:L∉ρ1:=y2.newρ L (fr L (.head _)) I.S.nl;have S3:Sat w (own1.filter fun a=>!(a==s.heap.objs.size)) L ρ1 m σ1 s2.heap:=by
     refine ⟨I2.S.len,I2.S.nodup,hL,fun a q=>?_,fun a q=>I2.S.lt a ((fm a).mp q).1,fun i X a e1 e2=>?_,I.S.fr.mono (y3.ev I.S.sub) y3.pre fun o e=>y2.keep L o e fun z=>?_⟩
     ·rcases List.mem_cons.mp q with q | q
      ·exact y3.sub a (I.S.sub a (q ▸ .head _))
      ·exact (fm a).mpr ⟨I2.S.sub a (.tail _ q),fun z=>d2 (.tail _ (z ▸ q))⟩
     ·apply gk;intro J;obtain ⟨o,g',d⟩:=I2.S.objs i X a e1 e2;apply J;clear J;exact ⟨o,g',d.mono ev (fun _ _ q=>q)⟩
     ·rcases List.mem_cons.mp z with z | z
      ·exact Nat.not_succ_le_self _ (Nat.le_of_lt (z ▸ fr' L (.head _)))
      ·exact I.S.nl z
    have I3:=I.next y3 S3;refine hRR _ _ _ _ us σ1 its s2 y3 I3 ((fm _).mpr ⟨hCm,Nat.succ_ne_self _⟩) (Nat.le_succ_of_le g0.size) (fun z=>?_) (let ⟨mm,hm,_⟩:=I2.S.fr;⟨mm,hm⟩) (fun z=>((fm _).mp z).2 rfl) (fun z=>Nat.succ_ne_self _ z.symm) ⟨nn,hDg2⟩ (hDl2.mono ev (fun _ _ q=>q)) hI;rcases List.mem_cons.mp z with z | z
    ·exact Nat.not_succ_le_self _ (Nat.le_of_lt (z ▸ fr' L (.head _)))
    ·exact I2.S.nl z
  ·rcases List.mem_cons.mp z with z | z
   ·exact Nat.succ_ne_self _ z.symm
   ·exact Nat.lt_irrefl _ (fr' _ (.tail _ z))
 exact codeAny_compStart_list loop (wpAny_pyIter_self It1 loop)
end
end Mine
end
section
set_option tactic.hygienic false
namespace Mine
section
variable{prog:Program}{w:World}{K:Frag}{mb:Str->Option Value}{A:Around}{own ρ:List Addr}{L:Addr}{m:Loc}{σ:List O}{s:Shared}{R n r:Nat}{T:Tabs}{F:Fra}{env:Env}
noncomputable abbrev SndD(prog:Program)(w:World)(K:Frag)(mb:Str->Option Value)(R:Nat)(T:Tabs)(n:Nat):Prop :=
 ∀ {F ks es m σ Q A env own L ρ s},wpD T n F ks es m σ Q->AOk (R+n / 2+1) A->In w K mb env F own L ρ m σ s->∀ pos,
  wpAny (model prog w) A (evalPairs (pairTrees ks es env pos)) (fun ps s'=>∃ own' ρ' us vs σ',Step own L ρ s own' ρ' s'/\Sat w own' L ρ' m σ' s'.heap/\DenL w own' ρ' s'.heap us (ps.map (·.1))/\DenL w own' ρ' s'.heap vs (ps.map (·.2))/\Q us vs σ') noE s
theorem D_ok(hE:qQ prog w K mb R T n)(hD:SndD prog w K mb R T n):SndD prog w K mb R T (n+1):=by
 intro F ks es m σ Q A env own L ρ s h hA I pos;have hA':AOk (R+n / 2+1) A:=hA.less (by lia);induction ks using List.casesOn with
 | nil =>
  apply gk;intro J;obtain ⟨ee,h⟩:=yE h;apply J;clear J;refine rwp (List.isEmpty_iff.mp ee) ?_;exact pairTrees_nil_walk ⟨own,ρ,[],[],σ,Step.refl _ _ _ _,I.S,rfl,rfl,h⟩
 | cons k ks =>
  apply gk;intro J;obtain ⟨k,ek,h⟩:=zN h;obtain ⟨e,es,ee,h⟩:=consW_of h;apply J;clear J;refine rwp ek ?_;refine rwp ee ?_;have h:wpE T n F k m σ fun a σ1=>wpE T n F e m σ1 fun b σ2=>wpD T n F ks es m σ2 fun us vs σ3=>Q (a::us) (b::vs) σ3:=h;refine pairTrees_cons_walk (wpAny_mono (hE h hA' I) (fun va s1 zz0=>?_) fun _ _ x=>x);apply gk;intro J;obtain ⟨o1,r1,a,σ1,x1,S1,d1,q1⟩:=zz0;apply J;clear J;have I1:=I.next x1 S1;refine wpAny_mono (hE q1 hA' I1) (fun vb s2 zz0=>?_) fun _ _ x=>x;apply gk;intro J;obtain ⟨o2,r2,b,σ2,x2,S2,d2,q2⟩:=zz0;apply J;clear J;have I2:=I1.next x2 S2;refine wpAny_mono (hD q2 hA' I2 pos) (fun ps s3 zz0=>?_) fun _ _ x=>x;apply gk;intro J;obtain ⟨o3,r3,us,vs,σ3,x3,S3,d3,d3',q3⟩:=zz0;apply J;clear J;exact ⟨o3,r3,a::us,b::vs,σ3,(x1.trans x2).trans x3,S3,DenL.cons (I2.den x3 (I1.den x2 d1)) d3,DenL.cons (I2.den x3 d2) d3',q3⟩
theorem store_all{i:Nat}{d:Addr}(hA:AOk r A):∀ {ps:List (Value×Value)} {us vs ks ws:List V} {σ:List O} {s:Shared},Sat w own L ρ m σ s.heap->Stat K mb own s.heap->σ[i]?=some (.dict ks ws)->ρ[i]?=some d->distK ks us->ks.length+us.length < 10000 ->
  DenL w own ρ s.heap us (ps.map (·.1))->DenL w own ρ s.heap vs (ps.map (·.2)) ->
  wpAny (model prog w) A (storeAll d ps) (fun _ s'=>Step own L ρ s own ρ s'/\Sat w own L ρ m (σ.set i (.dict (ks++us) (ws++vs))) s'.heap) noE s:=by
 intro ps;induction ps with
 | nil =>
  intro us vs ks ws σ s S _ hi _ _ _ d1 d2;have e1:us=[]:=by induction us using List.casesOn with | nil=>rfl | cons=>obtain ⟨_,_,e,_⟩:=d1;cases e
  have e2:vs=[]:=by induction vs using List.casesOn with | nil=>rfl | cons=>obtain ⟨_,_,e,_⟩:=d2;cases e
  subst e1;subst e2;unfold storeAll;refine rwp List.forIn_nil ?_;refine wpAny_pure ⟨Step.refl _ _ _ _,?_⟩;rw [List.append_nil,List.append_nil];have:σ.set i (.dict ks ws)=σ:=by
   apply gk;intro J;obtain ⟨h1,h2⟩:=List.getElem?_eq_some_iff.mp hi;apply J;clear J;refine rwp h2.symm ?_;rw [List.set_getElem_self]
  refine rwp this ?_;exact S
 | cons p ps ih =>
  intro us vs ks ws σ s S st hi hd hk hl d1 d2;obtain ⟨vk,vu⟩:=p;induction us using List.casesOn with
  | nil=>have:=show (vk::ps.map (·.1))=[] from d1;cases this
  | cons k us =>
  induction vs using List.casesOn with
  | nil=>have:=show (vu::ps.map (·.2))=[] from d2;cases this
  | cons u vs =>
  apply gk;intro J;obtain ⟨y1,l1,e1,dk,d1⟩:=d1;obtain ⟨y2,l2,e2,du,d2⟩:=d2;simp only [List.map_cons,List.cons.injEq] at e1 e2;obtain ⟨rfl,rfl⟩:=e1;obtain ⟨rfl,rfl⟩:=e2;obtain ⟨hk1,hk2⟩:=hk;apply J;clear J;unfold storeAll;rw [List.forIn_cons];refine wpAny_bind (wpAny_bind (wpAny_mono (up<|dictSet_ok hA S hi hk1 (by simp only [List.length_cons] at hl;lia) hd dk du) (fun _ s1 ⟨x1,S1⟩=>wpAny_pure ?_) fun _ _ x=>x));have ev:=x1.ev S.sub;have hi1:(σ.set i (.dict (ks++[k]) (ws++[u])))[i]?=some (.dict (ks++[k]) (ws++[u])):=by
   rw [List.getElem?_set_self];exact (List.getElem?_eq_some_iff.mp hi).1
  refine wpAny_mono (ih (σ:=σ.set i (.dict (ks++[k]) (ws++[u]))) S1 (st.ev ev x1.new x1.size) hi1 hd hk2 (by simp only [List.length_append,List.length_cons,List.length_nil] at hl ⊢;lia) (d1.mono ev (fun _ _ q=>q)) (d2.mono ev (fun _ _ q=>q))) (fun _ s2 ⟨x2,S2⟩=>⟨x1.trans x2,?_⟩) fun _ _ x=>x;rw [List.set_set] at S2;simpa using S2
theorem Di_ok(hD:SndD prog w K mb R T n):SndDi prog w K mb R T n:=by
 intro F ks es p m σ Q A env own L ρ s h hA I;have hA':AOk (R+n / 2+1) A:=hA.less (by lia);cases he:(ks.isEmpty&&es.isEmpty) with
 | true =>
  have h:newDict (T.owned.contains p.line) [] [] σ Q:=ifW_T h he;have he:=Bool.and_eq_true_iff.mp he;refine rwp (List.isEmpty_iff.mp he.1) ?_;refine rwp (List.isEmpty_iff.mp he.2) ?_;rw [eval_Dict_empty];refine wpAny_bind (wpAny_standAt ?_);refine up<|wpAny_newObj_type ?_ (by size_fits)
  cases ho:T.owned.contains p.line with
  | false =>
   rw [ho] at h;exact frz (t:=s.toks) (c:=.dct [] []) I ⟨_,[],0,rfl,Nat.ne_of_gt I.st.sm.2,fresh_not I,Heap.get?_push_size _ rfl,rfl,rfl,rfl⟩ h
  | true =>
   rw [ho] at h;exact ⟨_,_,.loc σ.length,_,Step.alloc (t:=s.toks),I.S.alloc (X:=.dict [] []) ⟨[],0,rfl,rfl,rfl,rfl⟩ rfl,⟨_,rfl,by refine rwp I.S.len.symm ?_;simp⟩,h⟩
 | false =>
  apply gk;intro J;obtain ⟨h1,h2⟩:=yE (ifW_F h he);simp only [Bool.and_eq_true] at h1;obtain ⟨⟨h1a,h1b⟩,h1c⟩:=h1;apply J;clear J;have h1a:es.length < 15:=Nat.le_of_ble_eq_true h1a;have h1c:ks.length=es.length:=by simpa using h1c
  have h0:ks≠[]:=fun q=>by
   rw [q] at h1c he;rw [List.length_eq_zero_iff.mp h1c.symm] at he;exact absurd he Bool.noConfusion
  refine wpAny_Dict_any h1b h1c h0 (by lia) ?_;have x1:Step own L ρ s (own++[s.heap.objs.size]) (ρ++[s.heap.objs.size]) { s with heap:=s.heap.push { cls:=.type "dict",data:=.dict #[] } }:=Step.alloc (t:=s.toks);have S1:=I.S.alloc (X:=.dict [] []) (o:={ cls:=.type "dict",data:=.dict #[] }) ⟨[],0,rfl,rfl,rfl,rfl⟩ rfl;have I1:In w K mb env F (own++[s.heap.objs.size]) L (ρ++[s.heap.objs.size]) m (σ++[.dict [] []]) { s with heap:=s.heap.push { cls:=.type "dict",data:=.dict #[] } }:=I.next x1 S1;have hr:(ρ++[s.heap.objs.size])[σ.length]?=some s.heap.objs.size:=by refine rwp I.S.len.symm ?_;simp
  refine wpAny_mono (wpAny_evalPairs_len (hD h2 hA' I1 p)) (fun ps s2 zz0=>?_) fun _ _ x=>x;apply gk;intro J;obtain ⟨hpl,o2,r2,us,vs,σ2,x2,S2,d2,d2',q2,q3,q4⟩:=zz0;apply J;clear J;have I2:=I1.next x2 S2;have hul:us.length < 15:=by
   have:=d2.length;rw [List.length_map,hpl,pairTrees_length _ _ _ _ h1b h1c] at this
   simp_all
  refine wpAny_mono (store_all hA' S2 I2.st q3 (x2.pre _ _ hr) q2 (by simp only [List.length_nil];lia) d2 d2') (fun _ s3 zz0=>?_) fun _ _ x=>x;apply gk;intro J;obtain ⟨x3,S3⟩:=zz0;apply J;clear J;exact ⟨o2,r2,.loc σ.length,_,(x1.trans x2).trans x3,S3,⟨_,rfl,x2.pre _ _ hr⟩,q4⟩
end
end Mine
end
section
namespace Mine
section
variable{prog:Program}{w:World}{K:Frag}{mb:Str->Option Value}{A:Around}{own ρ:List Addr}{L:Addr}{m:Loc}{σ:List O}{s:Shared}{R n r:Nat}{T:Tabs}{F:Fra}{env:Env}
noncomputable def compP(T:Tabs)(n:Nat)(F:Fra)(sc:Scope)(elt t:Expr)(ln:Nat)(items:List V)(m:Loc)(σ1:List O)(Q:V->List O->Prop):Prop :=
 ifW (T.unroll.contains ln) (wpL T n (zP F sc) elt t items m σ1 fun us σ2=>Q (.lst us) σ2) (∃ f:V->V,wpK T n (zP F sc) elt t items σ1 f/\Q (.lst (items.map f)) σ1)
theorem wpK_at{e t:Expr}{items:List V}{f:V->V}(h:wpK T n F e t items σ f)(v:V)(hv:v∈items):∃ j,j<=n/\yB (vC t v) fun m'=>xO F m'=true/\wpE T j F e (xN [] m') σ fun u σ'=>u=f v/\σ'=σ:=by
 induction n using Nat.casesAuxOn with
 | zero=>exact h.elim
 | succ j=>exact ⟨j,Nat.le_succ j,h v hv⟩
theorem compP_turns{sc:Scope}{cl:List (Str×Addr)}{elt t:Expr}{ln:Nat}{items:List V}{σ1:List O}{Q:V->List O->Prop}(hE:∀ k,k<=n->qQ prog w K mb R T k)(hA:AOk (R+n / 2+1) A)(h:compP T n F sc elt t ln items m σ1 Q) :
  ∃ Inv:Nat->List V->List O->Prop,Inv 0 [] σ1/\(∀ us σ,Inv items.length us σ->Q (.lst us) σ) /\
   (∀ k x us σ own ρ Ca s,items[k]?=some x->Inv k us σ->∃ bs,vC t x=some bs/\xO (zP F sc) bs=true/\(In w K mb (compEnvC sc cl Ca env) (zP F sc) own Ca ρ (xN [] bs) σ s ->
    wpAny (model prog w) A (eval elt (compEnvC sc cl Ca env)) (PV w own Ca ρ (xN [] bs) s fun u σ2=>Inv (k+1) (us++[u]) σ2) noE s)):=by
 cases hu:T.unroll.contains ln with
 | false =>
  apply gk;intro J;obtain ⟨f,h⟩:=ifW_F h hu;apply J;clear J;refine ⟨fun k us σ=>us=(items.take k).map f/\σ=σ1,⟨rfl,rfl⟩,fun us σ ⟨e1,e2⟩=>by subst e1;subst e2;refine rwp List.take_length ?_;exact h.2,fun k x us σ own ρ Ca s hx zz0=>?_⟩;apply gk;intro J;obtain ⟨e1,e2⟩:=zz0;apply J;clear J;subst e1;subst e2;have h1:=wpK_at h.1 x (List.mem_of_getElem? hx);apply gk;intro J;obtain ⟨j,hj,h1⟩:=h1;obtain ⟨bs,hb,h1⟩:=zN h1;apply J;clear J;refine ⟨bs,hb,h1.1,fun I=>wpAny_mono (hE j hj h1.2 (hA.less (by lia)) I) (fun v s' zz=>?_) fun _ _ x=>x⟩;apply gk;intro J;obtain ⟨o1,r1,c,σ2,x2,S2,d2,q1,q2⟩:=zz;apply J;clear J;refine ⟨o1,r1,c,σ2,x2,S2,d2,?_,q2⟩;refine rwp List.take_add_one ?_;refine rwp hx ?_;refine rwp List.map_append ?_;refine rwp q1 ?_;rfl
 | true =>
  have h:=ifW_T h hu;refine ⟨fun k us σ=>∃ j,j<=n/\wpL T j (zP F sc) elt t (items.drop k) m σ fun vs σ2=>Q (.lst (us++vs)) σ2,⟨n,Nat.le_refl _,by simpa using h⟩,fun us σ ⟨j,hj,h1⟩=>?_,fun k x us σ own ρ Ca s hx ⟨j,hj,h1⟩=>?_⟩
  ·rw [List.drop_length] at h1;induction j using Nat.casesAuxOn with
   | zero=>exact h1.elim
   | succ j =>
    have h1:Q (.lst (us++[])) σ:=h1
    rwa [List.append_nil] at h1
  ·have hlt:k < items.length:=(List.getElem?_eq_some_iff.mp hx).1;rw [List.drop_eq_getElem_cons hlt] at h1;have hxe:items[k]=x:=by rw [List.getElem?_eq_getElem hlt] at hx;exact Option.some.inj hx
   rw [hxe] at h1;induction j using Nat.casesAuxOn with
   | zero=>exact h1.elim
   | succ j =>
    apply gk;intro J;obtain ⟨bs,hb,h1⟩:=zN h1;apply J;clear J;refine ⟨bs,hb,h1.1,fun I=>wpAny_mono (hE j (by lia) h1.2 (hA.less (by lia)) I) (fun v s' zz=>?_) fun _ _ x=>x⟩;apply gk;intro J;obtain ⟨o1,r1,c,σ2,x2,S2,d2,q1⟩:=zz;apply J;clear J;refine ⟨o1,r1,c,σ2,x2,S2,d2,j,by lia,?_⟩;simpa using q1
noncomputable def compO(T:Tabs)(n:Nat)(F:Fra)(sc:Scope)(elt t:Expr)(ln:Nat)(items:List V)(σ1:List O)(Q:V->List O->Prop):Prop:=∃ f:V->V,wpK T n (zP F sc) elt t items σ1 f/\Q (.lst (items.map f)) σ1
theorem compO_turns{sc:Scope}{cl:List (Str×Addr)}{elt t:Expr}{ln i:Nat}{items:List V}{σ1:List O}{Q:V->List O->Prop}(hE:∀ k,k<=n->qQ prog w K mb R T k)(hA:AOk (R+n / 2+1) A)(h:compO T n F sc elt t ln items σ1 Q)(hi:σ1[i]?=some (.list items)) :
  ∃ Inv:Nat->List V->List O->Prop,Inv 0 [] σ1/\(∀ us σ,Inv items.length us σ->Q (.lst us) σ)/\(∀ k us σ,Inv k us σ->σ[i]?=some (.list items)) /\
   (∀ k x us σ own ρ Ca s,items[k]?=some x->Inv k us σ->∃ bs,vC t x=some bs/\xO (zP F sc) bs=true/\(In w K mb (compEnvC sc cl Ca env) (zP F sc) own Ca ρ (xN [] bs) σ s ->
    wpAny (model prog w) A (eval elt (compEnvC sc cl Ca env)) (PV w own Ca ρ (xN [] bs) s fun u σ2=>Inv (k+1) (us++[u]) σ2) noE s)):=by
 apply gk;intro J;obtain ⟨f,h⟩:=h;apply J;clear J;refine ⟨fun k us σ=>us=(items.take k).map f/\σ=σ1,⟨rfl,rfl⟩,fun us σ ⟨e1,e2⟩=>by subst e1;subst e2;refine rwp List.take_length ?_;exact h.2,fun k us σ ⟨_,e2⟩=>by subst e2;exact hi,fun k x us σ own ρ Ca s hx zz0=>?_⟩;apply gk;intro J;obtain ⟨e1,e2⟩:=zz0;apply J;clear J;subst e1;subst e2;have h1:=wpK_at h.1 x (List.mem_of_getElem? hx);apply gk;intro J;obtain ⟨j,hj,h1⟩:=h1;obtain ⟨bs,hb,h1⟩:=zN h1;apply J;clear J;refine ⟨bs,hb,h1.1,fun I=>wpAny_mono (hE j hj h1.2 (hA.less (by lia)) I) (fun v s' zz=>?_) fun _ _ x=>x⟩;apply gk;intro J;obtain ⟨o1,r1,c,σ2,x2,S2,d2,q1,q2⟩:=zz;apply J;clear J;refine ⟨o1,r1,c,σ2,x2,S2,d2,?_,q2⟩;refine rwp List.take_add_one ?_;refine rwp hx ?_;refine rwp List.map_append ?_;refine rwp q1 ?_;rfl
theorem compV_ok{elt t it:Expr}{sc:Scope}{p:Pos}{Q:V->List O->Prop}{use:Option (Value->Sem Unit)}{P:Value->Shared->Prop}(hE:∀ k,k<=n->qQ prog w K mb R T k)
  (h:yX (compOk F sc)<|wpE T n F it m σ fun a σ1=>optW (kX a) (fun items=>chk2 (items.length<=1000000) (compP T n F sc elt t p.line items m σ1 Q))<|yB (yU σ1 a) fun items=>yX (!T.unroll.contains p.line)<|chk2 (items.length<=1000000) (compO T n F sc elt t p.line items σ1 Q)) (hA:AOk (R+(n+1) / 2+1) A) (I:In w K mb env F own L ρ m σ s)
  (hP:∀ D Ca own' ρ' c σ' s',Step own L ρ s own' ρ' s'->In w K mb env F own' L ρ' m σ' s'->Ca∈own'->s.heap.objs.size<=Ca->Ca∉L::ρ'->(∃ m',s'.heap.Ns Ca m')->Den w own' ρ' s'.heap c (.ref D)->Q c σ'->compPost (model prog w) A noE use P (.ref D) Ca (.ok .next) s') :
  wpAny (model prog w) A (comprehension (.ListComp elt [⟨t,it,[],0⟩] sc p) sc env (firstIterPos [⟨t,it,[],0⟩] p) (PySem.newList []) (firstAsync [⟨t,it,[],0⟩]) (firstIter [⟨t,it,[],0⟩] env) use) P noE s:=by
 have hA':AOk (R+n / 2+1) A:=hA.less (by lia);apply gk;intro J;obtain ⟨h1,h2⟩:=yE h;have C:=compOk_of h1;obtain ⟨cl,hcl,_⟩:=comp_env (env:=env) C I.E;apply J;clear J;refine wpAny_comprehension_free (g:=⟨t,it,[],0⟩) (gs:=[]) rfl (fun x=>folded_ok (notSet h2)) hcl C.kind (fun x hx q=>by
  rcases C.names x hx with z | z | z
  ·exact z.2
  ·rw [z] at q;cases q
  ·rw [z.1] at q;cases q) (wpAny_mono (hE n (Nat.le_refl _) h2 hA' I) (fun va s1 zz=>?_) fun _ _ x=>x)
 apply gk;intro J;obtain ⟨o1,r1,a,σ1,x1,S1,d1,q1⟩:=zz;apply J;clear J;have I1:=I.next x1 S1;cases hit:kX a with
 | some items =>
  apply gk;intro J;obtain ⟨q0,q1⟩:=jF (o:=kX a) q1 hit;apply J;clear J;refine wpAny_mono (iter_ok hA' hit d1 S1.lt) (fun itv s2 zz0=>?_) fun _ _ x=>x;apply gk;intro J;obtain ⟨fp,hfp,g2,sz2,It⟩:=zz0;obtain ⟨Inv,i0,i1,i2⟩:=compP_turns (env:=env) (cl:=cl) hE hA' q1;obtain ⟨cl',hcl',hE'⟩:=comp_env (env:=env) C I1.E;apply J;clear J;have:cl'=cl:=by
   have:=hcl'.symm.trans hcl
   injection this
  subst this;refine compL_ok (RR:=fun acc Ca=>compPost (model prog w) A noE use P acc Ca) hA' (fun q=>by rw [hfp] at q;cases q) C hE' q0 i2 I1 g2 sz2 It i0 (fun _ e=>by cases e) ?_;intro D Ca o3 r3 us σ3 its s3 x3 I3 c1 c0 c2 c3 d3 d4 ⟨nn,d5⟩ d6 hI;exact hP D Ca o3 r3 (.lst us) σ3 s3 (x1.trans x3) I3 c1 (Nat.le_trans x1.size c0) c2 c3 ⟨D,its,nn,rfl,d3,d5,d6⟩ (i1 us σ3 hI)
 | none =>
  have hno:=hit;apply gk;intro J;obtain ⟨items,hit,q2⟩:=zN (jG (o:=kX a) q1 hno);obtain ⟨_,q0,q2⟩:=yE q2;obtain ⟨i,ei⟩:∃ i,a=.loc i:=by
   induction a using Mine.V.casesOn with
   | loc i=>exact ⟨i,rfl⟩
   | lst vs=>exact nomatch hno
   | _=>exact zK hit
  apply J;clear J;rw [ei] at hit d1;have hit:=loc_list hit;refine wpAny_mono (iter_own S1 hit d1) (fun itv s2 zz0=>?_) fun _ _ x=>x;apply gk;intro J;obtain ⟨fp,hfp,g2,sz2,It⟩:=zz0;obtain ⟨Inv,i0,i1,i3,i2⟩:=compO_turns (env:=env) (cl:=cl) hE hA' q2 hit;obtain ⟨cl',hcl',hE'⟩:=comp_env (env:=env) C I1.E;apply J;clear J;have:cl'=cl:=by
   have:=hcl'.symm.trans hcl
   injection this
  subst this;refine compL_ok (RR:=fun acc Ca=>compPost (model prog w) A noE use P acc Ca) hA' (fun q=>by rw [hfp] at q;cases q) C hE' q0 i2 I1 g2 sz2 It i0 (fun j e=>by cases e;exact i3) ?_;intro D Ca o3 r3 us σ3 its s3 x3 I3 c1 c0 c2 c3 d3 d4 ⟨nn,d5⟩ d6 hI;exact hP D Ca o3 r3 (.lst us) σ3 s3 (x1.trans x3) I3 c1 (Nat.le_trans x1.size c0) c2 c3 ⟨D,its,nn,rfl,d3,d5,d6⟩ (i1 us σ3 hI)
theorem nx_of{a:Addr}{h':Heap}(hs:Heap.SameBut a s.heap h'):Nx [a] s { s with heap:=h' }:=⟨rfl,rfl,Nat.le_of_eq hs.1.symm,fun b o e n=>(hs.2 b fun q=>n (q ▸ .head _)).trans e⟩
theorem one{a:Addr}{P:Addr->Prop}(h:P a):∀ b∈[a],P b:=fun b q=>by refine rwp (List.mem_singleton.mp q) ?_;exact h
theorem Cm_ok(hE:∀ k,k<=n->qQ prog w K mb R T k):SndCm prog w K mb R T n:=by
 intro F elt t it sc p m σ Q A env own L ρ s h hA I;rw [eval_ListComp];refine compV_ok hE h hA I fun D Ca o1 r1 c σ1 s1 x1 I1 c1 c0 c2 ⟨m1,c3⟩ d1 q1=>⟨m1,c3,fun h' hs=>?_⟩
 have n1:=nx_of hs;have ev:=n1.ev (own:=o1) (one c1);exact ⟨o1,r1,c,σ1,x1.nx n1 (one c0),(I1.nx n1 (one c1) (one c2)).S,d1.mono ev (fun _ _ q=>q),q1⟩
theorem As_ok(hE:∀ k,k<=n->qQ prog w K mb R T k):SndAs prog w K mb R T n:=by
 intro F t e y p m σ Q A env own L ρ s hc h hA I;apply gk;intro J;obtain ⟨py,elt,gs,sc,ep,et,ee,hb⟩:=compAsg_of hc;apply J;clear J;refine rwp et ?_;refine rwp ee ?_;rw [ee] at h
 ·simp only [Bool.and_eq_true] at hb;apply gk;intro J;obtain ⟨⟨hb1,hb2⟩,hb3⟩:=hb;apply J;clear J;induction n using Nat.casesAuxOn with
  | zero=>exact h.elim
  | succ n =>
  apply gk;intro J;obtain ⟨t,it,eg,h⟩:=genW_of h;apply J;clear J;refine rwp eg ?_;have hbk:env.blockKind=.function:=by unfold Env.blockKind;refine rwp I.E.kind ?_;rfl
  have hsw:swapsWith (.ListComp elt [⟨t,it,[],0⟩] sc ep) (some (.Name y py)) p.line env=pure true:=by
   show (pure (env.blockKind==.function&&env.kindOf y==some .local&&py.line==ep.line&&!(sc.names.any fun (n,k)=>n==y&&(k==.local||k==.cell))):Sem Bool)=_
   refine rwp hbk ?_;rw [I.E.kindOf];refine rwp hb1 ?_;refine rwp hb2 ?_;refine rwp hb3 ?_;rfl
  show wpAny _ A (exec (.Assign [.Name y py] (.ListComp elt [⟨t,it,[],0⟩] sc ep) p) env) _ _ s
  refine rwp (exec_Assign_Name_used _ _ _ _ hsw) ?_;refine wpAny_bind (wpAny_standAt (wpAny_bind ?_));refine wpAny_bind (wpAny_mono (compV_ok (n:=n) (Q:=fun v σ1=>Q .next (updL m y v) σ1) (P:=fun _ s'=>PF w own L ρ s Q .next s') (fun k hk=>hE k (by lia)) h hA I fun D Ca o1 r1 c σ1 s1 x1 I1 c1 c0 c2 zz0 d1 q1=>?_) (fun _ s' hq=>wpAny_pure (wpAny_pure hq)) fun _ _ x=>x);apply gk;intro J;obtain ⟨m1,c3⟩:=zz0;apply J;clear J;refine kA (jX I1 (by simpa using hb1) d1 fun s2 x2 I2=>⟨m1,c3.at fun o e=>x2.keep _ _ e c2,fun h' hs=>?_⟩);have n1:=nx_of hs;exact ⟨o1,r1,.next,_,σ1,(x1.trans x2).nx n1 (one c0),(I2.nx n1 (one c1) (one c2)).S,rfl,q1⟩
end
end Mine
end
section
set_option tactic.hygienic false
namespace Mine
section
variable{prog:Program}{w:World}{K:Frag}{mb:Str->Option Value}{A:Around}{own ρ:List Addr}{L:Addr}{m:Loc}{σ:List O}{s:Shared}{R n r:Nat}{T:Tabs}{F:Fra}{env:Env}
structure All(prog:Program)(w:World)(K:Frag)(mb:Str->Option Value)(R:Nat)(T:Tabs)(n:Nat):Prop where
 e:qQ prog w K mb R T n
 es:SndEs prog w K mb R T n
 o:SndO prog w K mb R T n
 t:SndT prog w K mb R T n
 a:SndA prog w K mb R T n
 b:SndB prog w K mb R T n
 c:SndC prog w K mb R T n
 f:SndF prog w K mb R T n
 g:SndG prog w K mb R T n
 gs:SndGs prog w K mb R T n
 s:SndS prog w K mb R T n
 ss:SndSs prog w K mb R T n
 d:SndD prog w K mb R T n
theorem all_ok(hT:TabsOk prog w K mb R T)(n:Nat):All prog w K mb R T n:=by
 induction n using Nat.strongRecOn with
 | ind n ih =>
  induction n using Nat.casesAuxOn with
  | zero =>
   constructor
   ·intro F e m σ Q A env own L ρ s h;exact h.elim
   ·intro F e m σ Q A env own L ρ s h;exact h.elim
   ·intro F e m σ Q A env own L ρ s h;exact h.elim
   ·intro F e m σ Q A env own L ρ s h;exact h.elim
   ·intro F op e m σ Q A env own L ρ s h;exact h.elim
   ·intro F op e m σ Q A env own L ρ s h;exact h.elim
   ·intro F ops rs a m σ Q A env own L ρ s va h;exact h.elim
   ·intro f args σ Q A own L ρ m s vargs h;exact h.elim
   ·intro F t c m σ Q A env own L ρ s v h;exact h.elim
   ·intro F ts cs m σ Q A env own L ρ s vs h;exact h.elim
   ·intro F st m σ Q A env own L ρ s h;exact h.elim
   ·intro F st m σ Q A env own L ρ s h;exact h.elim
   ·intro F ks es m σ Q A env own L ρ s h;exact h.elim
  | succ n =>
   have H:∀ k,k<=n->All prog w K mb R T k:=fun k hk=>ih k (Nat.lt_succ_of_le hk);have X:=H n (Nat.le_refl _);have hE:∀ k,k<=n->qQ prog w K mb R T k:=fun k hk=>(H k hk).e;have hSs:∀ k,k<=n->SndSs prog w K mb R T k:=fun k hk=>(H k hk).ss;have hTt:∀ k,k<=n->SndT prog w K mb R T k:=fun k hk=>(H k hk).t;exact ⟨E_ok hT X.e X.es X.o X.t X.b X.c X.f (fun k e=>hE k (e ▸ Nat.le_succ k)) (Cm_ok hE) (Di_ok X.d),Es_ok X.e X.es,O_ok X.e,T_ok X.e X.t X.a X.c,A_ok X.t X.a,B_ok X.e X.b,C_ok X.e X.c,F_ok hT X.ss,G_ok hT.clss X.e X.gs,Gs_ok X.g X.gs,
    S_ok hT X.e hTt X.g hSs (For_ok hT X.e hSs) (As_ok hE),Ss_ok X.s X.ss,D_ok X.e X.d⟩
end
end Mine
end
section
set_option tactic.hygienic false
set_option backward.match.sparseCases false
namespace Mine
noncomputable def zQ(q:Str)(d:List V):Option Stmt->Fi
 | some (.FunctionDef _ args body _ _ _ sc _ _ _)=>⟨q,args.args.map (·.arg),d,body,sc⟩
 | _=>⟨q,[],[],[],⟨.function,[],false,false,[]⟩⟩
noncomputable def yN(i:Nat):Option Stmt:=PySem.Challenge.pw_pq1188_01.main.body[i]?
noncomputable def yD(i j:Nat):Option Stmt:=match yN i with
 | some (.ClassDef _ _ _ b _ _ _ _ _ _ _)=>b[j]?
 | _=>none
noncomputable def by8(s:String):List UInt8:=s.toByteArray.data.toList
noncomputable def fnTab0:List (Addr×Fi):=[
 (61,zQ "param_is_digit" [] (yN 14)),
 (68,zQ "param_number" [] (yN 15)),
 (82,zQ "ParmReader.__init__" [] (yD 16 0)),
 (89,zQ "ParmReader.refuse" [] (yD 16 1)),
 (96,zQ "ParmReader.end_text" [] (yD 16 2)),
 (103,zQ "ParmReader.put" [] (yD 16 3)),
 (110,zQ "ParmReader.program" [] (yD 16 4)),
 (117,zQ "ParmReader.read_one" [] (yD 16 5)),
 (124,zQ "ParmReader.read_named" [] (yD 16 6)),
 (131,zQ "ParmReader.read_constant" [] (yD 16 7)),
 (138,zQ "ParmReader.read_branch" [] (yD 16 8)),
 (145,zQ "ParmReader.read_writer" [] (yD 16 9))]
noncomputable def fnTab1:List (Addr×Fi):=[
 (159,zQ "tparm_program" [] (yN 17)),
 (166,zQ "param_figures" [] (yN 18)),
 (173,zQ "param_padded" [] (yN 19)),
 (180,zQ "param_written" [] (yN 20)),
 (194,zQ "ParamStack.__init__" [] (yD 21 0)),
 (201,zQ "ParamStack.push" [] (yD 21 1)),
 (208,zQ "ParamStack.pop" [] (yD 21 2)),
 (215,zQ "ParamStack.pop_number" [] (yD 21 3)),
 (222,zQ "ParamStack.pop_octets" [] (yD 21 4)),
 (236,zQ "param_quotient" [] (yN 22)),
 (243,zQ "param_two" [] (yN 23)),
 (250,zQ "param_compared" [] (yN 24))]
noncomputable def fnTab2:List (Addr×Fi):=[
 (264,zQ "ParamRun.__init__" [] (yD 25 0)),
 (271,zQ "ParamRun.param" [] (yD 25 1)),
 (278,zQ "ParamRun.variables" [] (yD 25 2)),
 (285,zQ "ParamRun.make_more" [] (yD 25 3)),
 (292,zQ "ParamRun.write" [] (yD 25 4)),
 (299,zQ "ParamRun.do" [] (yD 25 5)),
 (306,zQ "ParamRun.reckon" [] (yD 25 6)),
 (313,zQ "ParamRun.run" [] (yD 25 7)),
 (335,zQ "delay_at" [] (yN 27)),
 (342,zQ "delays_of" [] (yN 28)),
 (349,zQ "without_delays" [] (yN 29))]
noncomputable def fnTab3:List (Addr×Fi):=[
 (363,zQ "Caps.__init__" [] (yD 33 0)),
 (370,zQ "Caps.string" [] (yD 33 1)),
 (416,zQ "caps_filled" [] (yN 34)),
 (423,zQ "cost" [] (yN 35)),
 (430,zQ "cheapest" [] (yN 36)),
 (437,zQ "is_plain_sign" [] (yN 37)),
 (444,zQ "repeat_octets" [] (yN 38)),
 (451,zQ "caps_run_octets" [] (yN 39)),
 (481,zQ "_law_words" [] (yN 43))]
noncomputable def fnTab4:List (Addr×Fi):=[
 (488,zQ "_law_codes" [] (yN 44)),
 (495,zQ "_law_others" [] (yN 45)),
 (500,zQ "_law_deck" [] (yN 46)),
 (507,zQ "_law_draw" [] (yN 47)),
 (512,zQ "_law_figures" [] (yN 48)),
 (519,zQ "_law_repeated" [] (yN 49)),
 (524,zQ "_law_other" [] (yN 50)),
 (531,zQ "_law_noted" [] (yN 51)),
 (538,zQ "_law_cells" [] (yN 52)),
 (545,zQ "_law_is_plain" [] (yN 53)),
 (552,zQ "_law_goes_on" [] (yN 54)),
 (557,zQ "_law_due" [] (yN 55))]
noncomputable def fnTab5:List (Addr×Fi):=[
 (564,zQ "_law_read" [] (yN 56))]
noncomputable def fnTabD:List (Addr×Fi):=[
 (328,zQ "expand" [.none] (yN 26)),
 (379,zQ "Caps.has" [.tup []] (yD 33 2)),
 (388,zQ "Caps.told" [.tup []] (yD 33 3)),
 (467,zQ "Info.__init__" [.tup []] (yD 41 0))]
noncomputable def fnTabP:List (Addr×Fi):=fnTab0++(fnTab1++(fnTab2++(fnTab3++(fnTab4++(fnTab5)))))
noncomputable def fnTab:List (Addr×Fi):=fnTabP++fnTabD
noncomputable def clsTab:List (Addr×(Addr×List (Str×Addr)×List Str)):=[
 (148,(82,[("refuse",89),("end_text",96),("put",103),("program",110),("read_one",117),("read_named",124),("read_constant",131),("read_branch",138),("read_writer",145)],["octets", "at", "rows", "text", "opened"])),
 (225,(194,[("push",201),("pop",208),("pop_number",215),("pop_octets",222)],["values"])),
 (316,(264,[("param",271),("variables",278),("make_more",285),("write",292),("do",299),("reckon",306),("run",313)],["params", "own", "statics", "stack", "found"])),
 (405,(363,[("string",370),("has",379),("told",388)],["info", "kept"])),
 (470,(467,[],["names", "booleans", "numbers", "strings", "more", "uses"]))]
noncomputable def globA0:List (Str×V):=[
 ("len",.bi "len"),
 ("bytes",.ty "bytes"),
 ("_law_is_plain",.ref 545),
 ("_law_draw",.ref 507),
 ("_law_figures",.ref 512),
 ("isinstance",.bi "isinstance"),
 ("int",.ty "int"),
 ("param_is_digit",.ref 61),
 ("param_number",.ref 68),
 ("ParmReader",.ref 148),
 ("tparm_program",.ref 159),
 ("param_figures",.ref 166)]
noncomputable def globA1:List (Str×V):=[
 ("param_padded",.ref 173),
 ("param_written",.ref 180),
 ("ParamStack",.ref 225),
 ("ParamRun",.ref 316),
 ("expand",.ref 328),
 ("delay_at",.ref 335),
 ("delays_of",.ref 342),
 ("without_delays",.ref 349),
 ("Caps",.ref 405),
 ("caps_filled",.ref 416),
 ("cost",.ref 423),
 ("cheapest",.ref 430)]
noncomputable def globA2:List (Str×V):=[
 ("is_plain_sign",.ref 437),
 ("repeat_octets",.ref 444),
 ("caps_run_octets",.ref 451),
 ("Info",.ref 470),
 ("_law_words",.ref 481),
 ("_law_codes",.ref 488),
 ("_law_others",.ref 495),
 ("_law_deck",.ref 500),
 ("_law_repeated",.ref 519),
 ("_law_other",.ref 524),
 ("_law_noted",.ref 531),
 ("_law_cells",.ref 538)]
noncomputable def globA3:List (Str×V):=[
 ("param_quotient",.ref 236),
 ("param_two",.ref 243),
 ("param_compared",.ref 250),
 ("_law_goes_on",.ref 552),
 ("_law_due",.ref 557),
 ("_law_read",.ref 564)]
noncomputable def globA:List (Str×V):=globA0++(globA1++(globA2++(globA3)))
noncomputable def globB0:List (Str×V):=[
 ("PERCENT",.int 37),
 ("MOST_PARAMS",.int 9),
 ("MOST_WIDTH",.int 10000),
 ("WORD",.int 4294967296),
 ("NUL_SHOWN",.int 128),
 ("TWO_OPERATORS",.bytes [43,45,42,47,109,38,124,94,61,62,60,65,79]),
 ("ONE_OPERATORS",.bytes [33,126]),
 ("WRITERS",.bytes [100,111,120,88,115]),
 ("DIGITS",.bytes [48,49,50,51,52,53,54,55,56,57]),
 ("LEAST_SIGN",.int 33),
 ("MOST_SIGN",.int 126),
 ("bytearray",.ty "bytearray")]
noncomputable def globB1:List (Str×V):=[
 ("list",.ty "list"),
 ("tuple",.ty "tuple"),
 ("dict",.ty "dict"),
 ("str",.ty "str"),
 ("range",.ty "range"),
 ("enumerate",.ty "enumerate"),
 ("abs",.bi "abs"),
 ("min",.bi "min"),
 ("ord",.bi "ord")]
noncomputable def globB:List (Str×V):=globB0++(globB1)
noncomputable def globTab:List (Str×V):=globA++globB
noncomputable def ownTab:List Nat:=[34,35,44,171,215,272,358,359,379,459,479,488,507,536,542]
structure Par where
 specs:List (Addr×xM):=[]
 unroll:List Nat:=[]
 views:List ((Nat×Nat)×Nat):=[]
noncomputable def jH(p:Par):Tabs:=⟨fnTab,clsTab,globTab,p.specs,ownTab,p.unroll,p.views⟩
end Mine
end
section
set_option tactic.hygienic false
set_option backward.match.sparseCases false
namespace Mine
theorem kF{ns:List Str}{vs:List Value}{x:Str}(h:x∈ns.take vs.length):((ns.zip vs).lookup x).isSome=true:=by
 induction ns generalizing vs with
 | nil=>simp at h
 | cons n ns ih =>
  induction vs using List.casesOn with
  | nil=>simp at h
  | cons v vs =>
   refine rwp List.zip_cons_cons ?_;refine rwp List.lookup_cons ?_;by_cases hn:x=n
   ·subst hn;simp
   ·refine rwp (beq_false_of_ne hn) ?_;rw [List.length_cons,List.take_succ_cons,List.mem_cons] at h;exact ih (h.resolve_left hn)
theorem lookup_zip_none{ns:List Str}{vs:List Value}{x:Str}(h:x∉ns):(ns.zip vs).lookup x=none:=by
 induction ns generalizing vs with
 | nil=>rfl
 | cons n ns ih =>
  induction vs using List.casesOn with
  | nil=>rfl
  | cons v vs =>
   refine rwp List.zip_cons_cons ?_;refine rwp List.lookup_cons ?_;refine rwp (beq_false_of_ne (fun q=>h (by rw [q];exact .head _))) ?_;exact ih fun q=>h (.tail _ q)
theorem fm_congr{α β:Type}{f g:α->Option β}:∀ {l:List α},(∀ x∈l,f x=g x)->l.filterMap f=l.filterMap g:=by
 intro zv;induction zv with
 | nil =>
  intro _;exact rfl
 | cons x l ih =>
  intro h;rw [List.filterMap_cons,List.filterMap_cons,h x (.head _),ih fun y q=>h y (.tail _ q)]
theorem qH{ns:List Str}{vs:List Value}(hn:ns.Nodup)(hl:vs.length=ns.length):(ns.filterMap fun n=>((ns.zip vs).lookup n).map (n,·))=ns.zip vs:=by
 induction ns generalizing vs with
 | nil=>rfl
 | cons n ns ih =>
  induction vs using List.casesOn with
  | nil=>cases hl
  | cons v vs =>
   obtain ⟨h1,h2⟩:=List.nodup_cons.mp hn;rw [List.zip_cons_cons,List.filterMap_cons,List.lookup_cons,beq_self_eq_true];dsimp only [Option.map_some];congr 1
   refine Eq.trans ?_ (ih h2 (by simpa using hl));refine fm_congr fun x hx=>?_;rw [List.lookup_cons,beq_false_of_ne (show x≠n from fun q=>h1 (q ▸ hx))]
section
variable{name qual:Str}{args:List Arg}{kwd:List (Option PySem.Expr)}{dfs:List PySem.Expr}{body:List Stmt}{scope:Scope}{dV kV doc pm:Value}{an:Option Addr}{cdv ct:Value}
theorem bind_none{ns:List Str}{vs:List Value}(ha:args.map (·.arg)=ns)(hn:ns.Nodup)(hl:vs.length=ns.length) :
  bindArgs (fnOf name qual ⟨[],args,none,[],kwd,none,dfs⟩ body scope .none kV doc pm an cdv ct) ⟨vs,[]⟩=pure (ns.zip vs):=by
 have hf:(ns.filter fun n=>((ns.zip vs).lookup n).isNone)=[]:=by
  rw [List.filter_eq_nil_iff];intro x hx;have:=kF (ns:=ns) (vs:=vs) (x:=x) (by refine rwp hl ?_;refine rwp List.take_length ?_;exact hx);cases h:(ns.zip vs).lookup x with
  | none=>rw [h] at this;cases this
  | some _=>simp
 have hm:=qH hn hl;unfold bindArgs;dsimp only;refine rwp ha ?_;simp [seqItems?,notAStandIn,hl,hf,hm]
theorem bind_one{ns:List Str}{x:Str}{vs:List Value}{d:Value}{T:Addr}{n:Nat}{s:Shared}(ha:args.map (·.arg)=ns++[x])(hn:(ns++[x]).Nodup)(ho:s.heap.get? T=some (xX #[d] n))(hl:vs.length=ns.length) :
  BindsTo s (fnOf name qual ⟨[],args,none,[],kwd,none,dfs⟩ body scope (.ref T) kV doc pm an cdv ct) ⟨vs,[]⟩ ((ns++[x]).zip (vs++[d])):=by
 intro M A E Q hq;have hf:(ns.filter fun n=>(((ns++[x]).zip vs).lookup n).isNone)=[]:=by
  rw [List.filter_eq_nil_iff];intro y hx;have:=kF (ns:=ns++[x]) (vs:=vs) (x:=y) (by refine rwp hl ?_;refine rwp List.take_left ?_;exact hx);cases h:((ns++[x]).zip vs).lookup y with
  | none=>rw [h] at this;cases this
  | some _=>simp
 have hz:(ns++[x]).zip vs=ns.zip vs:=by
  refine rwp (List.append_nil vs).symm ?_;refine rwp (List.zip_append hl.symm) ?_;simp
 have hx:((ns.zip vs).lookup x)=none:=lookup_zip_none fun q=>by
  rw [List.nodup_append] at hn;exact hn.2.2 x q x (.head _) rfl
 have hm:=qH (vs:=vs++[d]) hn (by simp [hl]);have hzz:(ns++[x]).zip (vs++[d])=ns.zip vs++[(x,d)]:=by refine rwp (List.zip_append hl.symm) ?_;rfl
 rw [hzz] at hm hq;rw [hz] at hf;unfold bindArgs;dsimp only;refine rwp ha ?_;refine PySem.wpAny_bind (PySem.wpAny_pure ?_);refine PySem.wpAny_bind (PySem.wpAny_bind (PySem.wpAny_load ho (PySem.wpAny_pure ?_)));simp [hz,hl,hf,hx];refine rwp (if_neg (by simp_all)) ?_;refine rwp List.filterMap_append.symm ?_;refine rwp hm ?_;exact PySem.wpAny_pure hq
theorem bind_full{ns:List Str}{x:Str}{vs:List Value}{d:Value}{T:Addr}{n:Nat}{s:Shared}(ha:args.map (·.arg)=ns++[x])(hn:(ns++[x]).Nodup)(ho:s.heap.get? T=some (xX #[d] n))(hl:vs.length=ns.length+1) :
  BindsTo s (fnOf name qual ⟨[],args,none,[],kwd,none,dfs⟩ body scope (.ref T) kV doc pm an cdv ct) ⟨vs,[]⟩ ((ns++[x]).zip vs):=by
 intro M A E Q hq;have hall:∀ y∈ns++[x],(((ns++[x]).zip vs).lookup y).isSome=true:=fun y hx =>
  kF (by refine rwp hl ?_;refine rwp (show ns.length+1=(ns++[x]).length by simp) ?_;refine rwp List.take_length ?_;exact hx)
 have hf:(ns.filter fun n=>(((ns++[x]).zip vs).lookup n).isNone)=[]:=by
  rw [List.filter_eq_nil_iff];intro y hx;have:=hall y (List.mem_append_left _ hx);cases h:((ns++[x]).zip vs).lookup y with
  | none=>rw [h] at this;cases this
  | some _=>simp
 have hx:=hall x (by simp);obtain ⟨u,hu⟩:=Option.isSome_iff_exists.mp hx;have hm:=qH (vs:=vs) hn (by simp [hl]);unfold bindArgs;dsimp only;refine rwp ha ?_;refine PySem.wpAny_bind (PySem.wpAny_pure ?_);refine PySem.wpAny_bind (PySem.wpAny_bind (PySem.wpAny_load ho (PySem.wpAny_pure ?_)));simp [hl,hf,hu];rw [List.filterMap_append,show List.filterMap (fun n=>Option.map (fun x=>(n,x)) (List.lookup n ((ns++[x]).zip vs))) [x]=[(x,u)] by simp [hu]] at hm;refine rwp hm ?_;exact PySem.wpAny_pure hq
end
noncomputable def asFunc:Data->Option FuncData
 | .func f=>some f
 | _=>none
theorem asFunc_of{d:Data}{f:FuncData}(h:asFunc d=some f):d=.func f:=by
 induction d using PySem.Data.casesOn with
 | func g=>exact congrArg _ (Option.some.inj h)
 | _=>exact zK h
noncomputable def asStmts:FuncBody->Option (List Stmt)
 | .stmts b=>some b
 | _=>none
theorem asStmts_of{d:FuncBody}{f:List Stmt}(h:asStmts d=some f):d=.stmts f:=by
 induction d using PySem.FuncBody.casesOn with
 | stmts g=>exact congrArg _ (Option.some.inj h)
 | _=>exact zK h
noncomputable def kM(K:Frag)(a:Addr):Option (Str×List Str×List Stmt×Scope×Value):=(K.lookup a).bind fun o=>(asFunc o.data).bind fun f=>(asStmts f.body).bind fun body =>
 match f.globals==mainGlobals&&f.builtins==builtinsNs&&codeIn K f.code f.qualname&&f.params.posonlyargs.isEmpty&&f.params.vararg.isNone&&f.params.kwonlyargs.isEmpty&&f.params.kwarg.isNone&&f.closure.isEmpty with
 | true=>some (f.qualname,f.params.args.map (·.arg),body,f.scope,f.defaults)
 | false=>none
inductive SigAt(K:Frag)(a:Addr)(q:Str)(ns:List Str)(body:List Stmt)(scope:Scope)(dV:Value):Prop
 | mk (name:Str) (args:List Arg) (kwd:List (Option PySem.Expr)) (dfs:List PySem.Expr) (kV doc pm:Value) (an:Option Addr) (cdv ct:Value) (oc:Value) (od:Option Addr) (osl:Array (Option Value))
  (h:K.lookup a=some ⟨oc,od,.func (fnOf name q ⟨[],args,none,[],kwd,none,dfs⟩ body scope dV kV doc pm an cdv ct),osl⟩) (ha:args.map (·.arg)=ns) (hc:codeIn K cdv q=true)
theorem fn_eq{f:FuncData}{b:List Stmt}(h1:f.globals=mainGlobals)(h2:f.builtins=builtinsNs)(h3:f.params.posonlyargs=[])(h4:f.params.vararg=none)(h5:f.params.kwonlyargs=[])(h6:f.params.kwarg=none)(h7:f.closure=[])(h8:f.body=.stmts b) :
  f=fnOf f.name f.qualname ⟨[],f.params.args,none,[],f.params.kw_defaults,none,f.params.defaults⟩ b f.scope f.defaults f.kwdefaults f.doc f.pyModule f.annotations f.code f.closureTuple:=by
 obtain ⟨n,q,⟨po,ar,va,ko,kd,kw,df⟩,bd,sc,gl,cl,d,kV,dc,pm,an,cd,ct,bi⟩:=f;cases h1;cases h2;cases h3;cases h4;cases h5;cases h6;cases h7;cases h8;rfl
theorem sigOf_spec{K:Frag}{a:Addr}{q:Str}{ns:List Str}{body:List Stmt}{scope:Scope}{dV:Value}(h:kM K a=some (q,ns,body,scope,dV)):SigAt K a q ns body scope dV:=by
 refine xQ h fun o e1 h=>xQ h fun f e2 h=>xQ h fun b e3 h=>?_;cases hb:(f.globals==mainGlobals&&f.builtins==builtinsNs&&codeIn K f.code f.qualname&&f.params.posonlyargs.isEmpty&&f.params.vararg.isNone&&f.params.kwonlyargs.isEmpty&&f.params.kwarg.isNone&&f.closure.isEmpty) with
 | false=>rw [hb] at h;exact zK h
 | true =>
  rw [hb] at h;simp only [Bool.and_eq_true,beq_iff_eq,List.isEmpty_iff,Option.isNone_iff_eq_none] at hb;have ef:=fn_eq hb.1.1.1.1.1.1.1 hb.1.1.1.1.1.1.2 hb.1.1.1.1.2 hb.1.1.1.2 hb.1.1.2 hb.1.2 hb.2 (asStmts_of e3);have hd:=(asFunc_of e2).trans (congrArg Data.func ef);have hl:K.lookup a=some ⟨o.cls,o.dict,.func (fnOf f.name f.qualname ⟨[],f.params.args,none,[],f.params.kw_defaults,none,f.params.defaults⟩ b f.scope f.defaults f.kwdefaults f.doc f.pyModule f.annotations f.code f.closureTuple),o.slots⟩:=by rw [e1,<- hd]
  injection Option.some.inj h with p1 p2
  injection p2 with p2 p3
  injection p3 with p3 p4
  injection p4 with p4 p5
  rw [<- p1,<- p2,<- p3,<- p4,<- p5];exact ⟨_,_,_,_,_,_,_,_,_,_,_,_,_,hl,rfl,hb.1.1.1.1.1.2⟩
noncomputable def scOk(sc:Scope):Bool:=sc.kind==.function&&!sc.isGenerator&&!sc.isCoroutine
theorem fnOk_none{K:Frag}{w:World}{a:Addr}{fi:Fi}(h:kM K a=some (fi.qual,fi.params,fi.body,fi.scope,.none))(hs:scOk fi.scope=true)(hd:fi.dfl=[])(hn:fi.params.Nodup):FnOk K w a fi:=by
 obtain ⟨name,args,kwd,dfs,kV,doc,pm,an,cdv,ct,oc,od,osl,h1,h2,h3⟩:=sigOf_spec h;simp only [scOk,Bool.and_eq_true,beq_iff_eq,Bool.not_eq_true'] at hs;refine ⟨⟨name,_,.none,kV,doc,pm,cdv,ct,an,oc,od,osl,h1,h3,fun own ρ s vargs hK hown l1 l2=>?_⟩,hs.1.1,hs.1.2,hs.2⟩;rw [hd] at l2;refine ⟨[],by refine rwp hd ?_;refine rwp List.drop_nil ?_;rfl,?_⟩;rw [List.append_nil];exact BindsTo.of_eq (bind_none h2 hn (Nat.le_antisymm l1 (by simpa using l2)))
theorem fnOk_one{K:Frag}{w:World}{a:Addr}{fi:Fi}{T:Addr}{d:Value}{D:V}{n:Nat}{ns:List Str}{x:Str}(h:kM K a=some (fi.qual,fi.params,fi.body,fi.scope,.ref T))(hs:scOk fi.scope=true)(hd:fi.dfl=[D])(hn:fi.params.Nodup)
  (hp:fi.params=ns++[x]) (hT:K.lookup T=some (xX #[d] n)) (hD:∀ own ρ (h:Heap),K.In h->(∀ a o,K.lookup a=some o->a∉own)->Den w own ρ h D d):FnOk K w a fi:=by
 obtain ⟨name,args,kwd,dfs,kV,doc,pm,an,cdv,ct,oc,od,osl,h1,h2,h3⟩:=sigOf_spec h;simp only [scOk,Bool.and_eq_true,beq_iff_eq,Bool.not_eq_true'] at hs;refine ⟨⟨name,_,.ref T,kV,doc,pm,cdv,ct,an,oc,od,osl,h1,h3,fun own ρ s vargs hK hown l1 l2=>?_⟩,hs.1.1,hs.1.2,hs.2⟩;rw [hd] at l2;rw [hp] at l1 l2 h2 hn;rw [List.length_append,List.length_cons,List.length_nil] at l1 l2;by_cases hl:vargs.length=ns.length
 ·refine ⟨[d],?_,by refine rwp hp ?_;exact bind_one h2 hn (hK _ _ hT) hl⟩;refine rwp hd ?_;refine rwp hp ?_;refine rwp hl ?_;refine rwp (show [D].length - ((ns++[x]).length - ns.length)=0 by simp) ?_;exact DenL.cons (hD own ρ s.heap hK hown) rfl
 ·have hl':vargs.length=ns.length+1:=by rw [List.length_cons,List.length_nil] at l2;lia
  refine ⟨[],?_,by refine rwp hp ?_;rw [List.append_nil];exact bind_full h2 hn (hK _ _ hT) hl'⟩;refine rwp hd ?_;refine rwp hp ?_;refine rwp hl' ?_;refine rwp (show [D].length - ((ns++[x]).length - (ns.length+1))=1 by simp) ?_;rfl
end Mine
end
section
set_option tactic.hygienic false
set_option backward.match.sparseCases false
namespace Mine
theorem jR{α β:Type}[BEq α][LawfulBEq α]{a:α}{b:β}:∀ {l:List (α×β)},l.lookup a=some b->(a,b)∈l:=by
 intro zv;induction zv with
 | nil =>
  intro h;cases h
 | cons zp l ih =>
  intro h;obtain ⟨x,y⟩:=zp;rw [List.lookup_cons] at h;cases hb:a==x with
  | true=>rw [hb] at h;cases h;refine rwp (eq_of_beq hb) ?_;exact .head _
  | false=>rw [hb] at h;exact .tail _ (ih h)
noncomputable def sigRow(p:Addr×Fi):Option (Str×List Str×List Stmt×Scope×Value):=some (p.2.qual,p.2.params,p.2.body,p.2.scope,.none)
noncomputable def rowOk(p:Addr×Fi):Bool:=scOk p.2.scope&&p.2.dfl.isEmpty&&decide p.2.params.Nodup
theorem rows_ok{K:Frag}{w:World}{l:List (Addr×Fi)}(h1:l.map (fun p=>kM K p.1)=l.map sigRow)(h2:l.all rowOk=true):∀ a fi,(a,fi)∈l->FnOk K w a fi:=fun a fi hm=>by
 have e:=List.map_inj_left.mp h1 _ hm;have q:=List.all_eq_true.mp h2 _ hm;simp only [rowOk,Bool.and_eq_true,decide_eq_true_eq,List.isEmpty_iff] at q;exact fnOk_none e q.1.1 q.1.2 q.2
theorem app_ok{α:Type}{l1 l2:List α}{P:α->Prop}(h1:∀ x∈l1,P x)(h2:∀ x∈l2,P x):∀ x∈l1++l2,P x:=fun x hx=>(List.mem_append.mp hx).elim (h1 x) (h2 x)
theorem row0:fnTab0.all rowOk=true:=by kernel_rfl
theorem row1:fnTab1.all rowOk=true:=by kernel_rfl
theorem row2:fnTab2.all rowOk=true:=by kernel_rfl
theorem row3:fnTab3.all rowOk=true:=by kernel_rfl
theorem row4:fnTab4.all rowOk=true:=by kernel_rfl
theorem row5:fnTab5.all rowOk=true:=by kernel_rfl
noncomputable def clsChk(K:Frag)(p:Addr×(Addr×List (Str×Addr)×List Str)):Bool :=
 makesIn K p.1&&findIn K (.ref p.1) "__init__" == some (some (.ref p.2.1))&&typeIn K (.ref p.2.1)==some (.type "function")&&plainGet K p.1 "" && findIn K (.ref p.1) "__setattr__" == some (some (.builtin "object.__setattr__")) &&
 plainOver K p.1&&hasDictIn K p.1&&p.2.2.2.all (fun x=>findIn K (.ref p.1) x==some none)&&p.2.2.1.all (fun q=>findIn K (.ref p.1) q.1==some (some (.ref q.2))&&typeIn K (.ref q.2)==some (.type "function"))
noncomputable def valR:Value->Option Addr
 | .ref a=>some a
 | _=>none
theorem valR_of{v:Value}{a:Addr}(h:valR v=some a):v=.ref a:=by
 induction v using PySem.Value.casesOn with
 | ref b=>rw [Option.some.inj h]
 | _=>exact zK h
noncomputable def valB:Value->Option (List UInt8)
 | .bytes c _=>some c.toList
 | _=>none
theorem valB_of{v:Value}{b:List UInt8}(h:valB v=some b):∃ t,v=.bytes ⟨b⟩ t:=by
 induction v using PySem.Value.casesOn with
 | bytes c t=>exact ⟨t,by rw [<- Option.some.inj h]⟩
 | _=>exact zK h
noncomputable def globChk(K:Frag)(p:Str×V):Bool:=match nsIn K mainGlobals p.1 with
 | none=>false
 | some o=>match o with
  | some u=>match p.2 with
   | .ref a=>valR u==some a
   | .int i=>valI u==some i
   | .bytes b=>valB u==some b
   | _=>false
  | none=>match p.2 with
   | .bi i=>bootBuiltins p.1==some (.builtin i)&&!(p.1 == "__name__")
   | .ty i=>bootBuiltins p.1==some (.type i)&&!(p.1 == "__name__")
   | _=>false
noncomputable def fnCode(K:Frag)(a:Addr):Option Value:=match K.lookup a with
 | some ⟨_,_,.func f,_⟩=>some f.code
 | _=>none
noncomputable def lawFi:Fi:=zQ "law" [] (yN 57)
end Mine
end
section
set_option tactic.hygienic false
namespace Mine
noncomputable abbrev WalkM(q:Program)(loose:List Str)(XP:(Str->Option Value)->Heap->Prop)(YP:World->Heap->Prop)(r:RowW)(d:DefRec):Prop :=
 ∀ (w:World) (s₀ s₁:Shared) (mg mb:Str->Option Value),Ground q loose r.records XP w s₀ mg mb s₁.heap->YP w s₁.heap->∀ (a:Addr),mg d.name=some (.ref a)->s₁.gens=#[] ->
  ∀ (args:List WData) (vals:List Value) (as:List Addr),r.claim.pre args=true->WData.layableAll args=true->Laid r.records w s₀ s₁ args vals as ->
   wpAny (model r.prog w) callerA (PySem.call (.ref a) vals) (fun v s'=>GoodWG r.claim (classAt s₀.heap) (ExcName.means s₀.heap) args s₁ (.ok (.ret v)) s') noE s₁
theorem good_caller:Good (⟨.builtin "claim.caller" {},none,none,[],none⟩:Ctx):=⟨by decide +kernel,fun _ h=>nomatch h⟩
theorem ends_of{prog:Program}{w:World}{t:Sem Fin}{s:Shared}{R:Flow->Shared->Prop}(hreg:s.asleep)
  (h:wpAny (model prog w) callerA t (fun fin s'=>∃ f,fin=.done f/\R f s'/\leftWithCleanup s'.gens=false) noE s) :
  ∃ n f s' s'',runN (denote table) prog w n s ⟨t,.builtin "claim.caller" {},default,[]⟩=.halted (outcomeOf (.ok f)) s' /\
   schedN (denote table) prog w n (.single s ⟨t,.builtin "claim.caller" {},default,[]⟩)=.halted (outcomeOf (.ok f)) s'/\s'.forget=s''.forget/\R f s'':=by
 have h0:=h _ default caller_in good_caller;apply gk;intro J;obtain ⟨n,r,s₁,s₂,hs,hn,hfo,hR⟩:=wp_halts_full (M:=model prog w) (p:=default) (c:=.builtin "claim.caller" {}) (t:=t) (R:=fun r s'=>∃ f,r=.ok f/\R f s') hreg
  (Sem.wp_mono _ _ t (fun fin p' s' ⟨f,e,h1,h2⟩=>by subst e;exact ⟨⟨f,rfl,h1⟩,h2⟩) (fun _ _ _ x=>x.elim) default s h0)
 obtain ⟨f,rfl,hR⟩:=hR;apply J;clear J;exact ⟨n,f,s₂,s₁,hn,hs,hfo,hR⟩
theorem PySem.W.holds_open{r:OpenRow}{q:Program}{loose:List Str}{Xt:Shared->Bool}{XP:(Str->Option Value)->Heap->Prop}{α:Type}{Yf:Shared->α}{Ya:World->α}{YP:World->Heap->Prop}{d:DefRec}{kwd:List (Str×PySem.Expr)}{N:Nat}
  (left:LeftO r.prog q loose Xt Yf Ya N) (hY:∀ w s,Yf s=Ya w->YP w s.heap) (hYk:∀ w h h',YP w h->(∀ b o,h.get? b=some o->h'.get? b=some o)->YP w h')
  (hX:∀ s,Xt s=true->XP (s.heap.nsMap mainGlobals) s.heap) (hXk:∀ mg h h',XP mg h->(∀ b o,h.get? b=some o->h'.get? b=some o)->XP mg h')
  (hdef:defOf q r.name=some (d,kwd)) (hp:r.prog.theDef r.name=some (d.params,d.body,d.scope)) (hk:kwWritten? d.params.kwonlyargs d.params.kw_defaults=some kwd) (hRf:∀ s,Xt s=true->RecFacts r.records s.heap) (hwr:(!r.writes||r.records.isEmpty)=true)
  (k1:r.wellSaid=true) (ok:(chainsOk q&&opensWell r.prog&&(frees r.toRowW&&r.within.isEmpty))=true) (hb:r.prog.bare) (hw:r.toRowW.promised)
  (call:WalkM q loose XP YP r.toRowW d):r.Holds:=by
 apply gk;intro J;obtain ⟨ok,k5⟩:=Bool.and_eq_true_iff.mp ok;obtain ⟨hch,o1⟩:=Bool.and_eq_true_iff.mp ok;obtain ⟨k5,k6⟩:=Bool.and_eq_true_iff.mp k5;obtain ⟨hsame,hu,ha,hap,hm⟩:=frees_parts k5;apply J;clear J;have hwi:r.claim.within=[]:=List.isEmpty_iff.mp k6;refine ⟨k1,hw,⟨hb,o1,by show r.makers.map _=[];rw [hm];rfl⟩,hw.witness,fun w=>⟨(left.behind hX hch w).1,fun s' hs'=>?_⟩⟩;apply gk;intro J;obtain ⟨s₀,hf,hg0,s,hT,hz,hgens,hg,G00,y⟩:=(left.behind (XP:=fun mg h=>XP mg h/\RecFacts r.records h) (fun s hs=>⟨hX s hs,hRf s hs⟩) hch w).2 s' hs';apply J;clear J;have G0:Ground q loose [] XP w s (s.heap.nsMap mainGlobals) (s.heap.nsMap builtinsNs) s.heap:=⟨G00.T,G00.B,G00.D,G00.TE,G00.TD,G00.W,G00.X.1,G00.cls,G00.has,G00.apart,G00.once,G00.K⟩
 have RF:=G00.X.2;have hgens:s.gens=#[]:=Array.eq_empty_of_size_eq_zero (beq_iff_eq.mp hgens);have G:Ground q loose r.records XP w s _ _ s.heap:=RF.ground G0;refine ⟨s₀,hf,hg0,s,hT,fun n hn=>?_,RF.1,RF.2.1,fun args hpre hlay ord hord=>?_⟩
 ·obtain rfl:n=r.name:=by split at hn <;> simp_all
  exact pinned_of_view hg G0 hdef hp hk
 apply gk;intro J;obtain ⟨⟨vs,s₁⟩,hlaid⟩:=Option.isSome_iff_exists.mp (layAllW_isSome (P:=w.params) (ord:=ord) G.has args r.args s (pre_splitW hpre).1);have keeps:=layAllW_keeps _ _ _ hlaid;have hal:=layAllW_rest _ _ _ hlaid;obtain ⟨as,hrd,hin,hold⟩:=reads_layAllW hord _ _ _ hlaid hlay s₁.heap (fun _ _ e=>e);have Ld:Laid r.records w s s₁ args vs as:=⟨⟨ord,hord,hlaid⟩,hrd,hin,hold,keeps,hal.1.trans hgens,hal.2.2.1⟩
 have G₁:=G.keeps hXk keeps;obtain ⟨a,o,pm,cd,doc,dV,kV,h1,h2,h3,h4,h5⟩:=G₁.fn hdef;have hnm:=defOf_name hdef;have body:=call w s s₁ _ _ G₁ (hYk _ _ _ (hY w s y) keeps) a (by rw [hnm];exact h1) Ld.gens args vs as hpre hlay Ld;have whole:wpAny (model r.prog w) callerA (do match <- nsGet mainNs r.name with
   | some f=>do ret (<- PySem.call f vs)
   | none=>unsupported "claim.caller:no-such-global") (fun fin s'=>∃ f,fin=.done f/\((∃ v,f=.ret v/\GoodWG r.claim (classAt s.heap) (ExcName.means s.heap) args s₁ (.ok (.ret v)) s')/\leftWithCleanup s'.gens=false)) noE s₁:=by
  refine wpAny_bind (up (wpAny_nsGet G₁.T.g ?_));rw [h1];refine wpAny_bind (wpAny_mono body (fun v s' g=>wpAny_pure ⟨_,rfl,⟨v,rfl,g⟩,?_⟩) fun _ _ x=>x);exact leftWithCleanup_false_of_bare g.2.2.2
 obtain ⟨n,f,s₂,s₃,hrun,hsched,hfo,v,rfl,g⟩:=ends_of (prog:=r.prog) (w:=w) (s:=s₁) (R:=fun f s'=>∃ v,f=.ret v/\GoodWG r.claim (classAt s.heap) (ExcName.means s.heap) args s₁ (.ok (.ret v)) s')
  (Shared.asleep_of_life hal.2.2.2 hz) whole
 obtain ⟨eh,_,_,eo,_⟩:=Shared.forget_eq hfo;apply J;clear J;have z:=g.laid (c:=r.claim) hsame hwi (ident_freeW hu ha hap) Ld;have hcase:=z.1.congr eh;refine ⟨vs,s₁,hlaid,n,_,s₂,hsched,?_,(fun _ i x hx=>by rw [hgens] at hx;simp at hx),(fun q=>?_),by rw [(runN_life _ _ _ hrun).trans hal.2.2.2],Shared.rest_eq (eo.trans z.2.1)⟩
 ·rcases hcase with ⟨v',e,d1,d2,d3,d4,d5⟩ | ⟨e,ob,cls,x,_⟩
  ·cases e;exact .inl ⟨v,rfl,d1,d2,d3,fun b o y _=>d4 b o y,d5⟩
  ·cases x
 ·rw [eh];exact ⟨namesKept_of hT hg r.keeps keeps g.2.1.old,noTable hwr q⟩
end Mine
end
section
set_option tactic.hygienic false
set_option maxRecDepth 1000000
set_option backward.match.sparseCases false
namespace Mine
noncomputable abbrev P0:Program:=PySem.Challenge.rw_pq1188_01.row.toRowW.1
noncomputable def env0:Env:={ scope:=P0.main.scope,locals:=mainNs,globals:=mainNs,cells:=[],code:=.ref 13,frame:=some 14 }
noncomputable def pos0:Pos:=⟨0,0,0,0⟩
noncomputable def posE:Pos:=⟨533,0,553,35⟩
noncomputable def bE:List Stmt:=behindTheImports P0
noncomputable def cE:Code:=.body bE env0
noncomputable def annE:Option Value:=some (.ref 6)
noncomputable def OS0:OsState:=(start (opening P0)).1.os
noncomputable def H0(w:World):Shared:=⟨boot_heap w.params,#[],boot_drawn,boot_toks,OS0⟩
noncomputable def toBT(l:List Obj):BT:=(l.foldl (fun (p:BT×Nat) o=>(p.1.ins p.2 o,p.2+1)) (.nil,0)).1
noncomputable def preR(w:World):Option (Shared×Thread):=topGo treeTable P0 w 11 annE 12 (H0 w) (topStub P0)
noncomputable def Sa(w:World):Shared:=match preR w with
 | some p=>p.1
 | none=>H0 w
noncomputable def Tb(w:World):SharedT:=⟨toBT (Sa w).heap.objs.toList,15,(Sa w).heap.life,(Sa w).gens,(Sa w).drawn,(Sa w).toks,OS0⟩
noncomputable def runR(w:World):Option (Flow×SharedT×Code×Pos):=PySem.W.Fast.tw10110043849684766642 PySem.W.Fast.tw14364793385576792824 P0 w 11 annE 1 3700 (Tb w) ⟨(PySem.W.Fast.tw12563942051412417395 bE env0).wrap doneF deadEnd id id,cE,pos0,[topFrame pos0]⟩
noncomputable def T1(w:World):SharedT:=match runR w with
 | some r=>r.2.1
 | none=>Tb w
theorem runR_eq(w:World):segRunT treeTable P0 w 11 annE 1 3700 (Tb w) (piecesOf bE env0 cE pos0 [topFrame pos0])=runR w:=by
 unfold runR piecesOf;rw [PySem.W.Fast.te10110043849684766642,PySem.W.Fast.te14364793385576792824,PySem.W.Fast.te12563942051412417395]
theorem open0(w:World):fencedOpening treeTable P0 w 7390=some (H0 w):=by kernel_rfl
theorem pre0(w:World):preR w=some (Sa w,⟨denote treeTable cE,cE,pos0,[topFrame pos0]⟩):=by kernel_rfl
theorem blk0(w:World):segRun treeTable P0 w 11 annE 1 1 (Sa w) (blockOf bE env0 cE pos0 [topFrame pos0])=some (.next,(Tb w).abs,cE,pos0):=by kernel_rfl
theorem top0(w:World):((H0 w).heap.isNs mainGlobals&&(H0 w).gens.size==0)=true/\(H0 w).heap.objs.size=11/\(H0 w).heap.nsMap mainGlobals "__annotations__" = annE:=⟨by kernel_rfl,by kernel_rfl,by kernel_rfl⟩
theorem end0(w:World)(s:Shared):topRun treeTable P0 w 11 annE 2 s ⟨doneF .next,cE,posE,[topFrame pos0]⟩=some s:=by
 obtain ⟨h,g,d,t,o⟩:=s;rfl
noncomputable def asL:List Nat:=[2,3,15,17,18,20,21,22,29,30,32,33,35,36,37,38,39,40,43,50,51,52,55,57,58,60,61,62,64,65,67,68,76,78,79,81,82,83,85,86,88,89,90,92,93,95,96,97,99,100,102,103,104,106,107,109,110,111,113,114,116,117,118,120,121,123,124,125,127,128,130,131,132,134,135,137,138,139,141,142,144,145,146,147,148,149,150,153,155,156,158,159,160,162,163,165,166,167,169,170,172,173,174,176,177,179,180,188,190,191,193,194,195,197,198,200,201,202,204,205,207,208,209,211,212,214,215,216,218,219,221,222,223,224,225,226,227,230,232,233,235,236,237,239,240,242,243,244,246,247,249,250,258,260,261,263,264,265,267,268,270,271,272,274,275,277,278,279,281,282,284,285,286,288,289,291,292,293,295,296,298,299,300,302,303,305,306,307,309,310,312,313,314,315,316,317,318,321,322,324,325,327,328,329,331,332,334,335,336,338,339,341,342,343,345,346,348,349,357,359,360,362,363,364,366,367,369,370,371,372,373,375,376,378,379,380,381,382,384,385,387,388,389,391,392,394,395,396,398,399,401,402,403,404,405,406,407,410,412,413,415,416,417,419,420,422,423,424,426,427,429,430,431,433,434,436,437,438,440,441,443,444,445,447,448,450,451,459,460,461,463,464,466,467,468,469,470,471,472,475,477,478,480,481,482,484,485,487,488,489,491,492,494,495,496,499,500,501,503,504,506,507,508,511,512,513,515,516,518,519,520,523,524,525,527,528,530,531,532,534,535,537,538,539,541,542,544,545,546,548,549,551,552,553,556,557,558,560,561,563,564,565,568,569]
noncomputable def KW(w:World):Frag:=asL.filterMap fun a=>((T1 w).tree.get a).bind fun o=>(alive o).map (a,·)
noncomputable def topNames:List Str:=P0.main.body.flatMap fun s=>match s with
 | .FunctionDef n ..=>[n]
 | .ClassDef n ..=>[n]
 | .Assign ts ..=>ts.filterMap fun t=>match t with
  | .Name n _=>some n
  | _=>none
 | _=>[]
noncomputable def looseL:List Str:=(topNames.filter fun (n:Str)=>!(n==("law" : Str)||n==("__name__" : Str))).eraseDups
noncomputable def q0:Program:=view P0 [57]
noncomputable def Xt0(s:Shared):Bool:=xlAt q0 [] s&&recOk (RowW.records PySem.Challenge.rw_pq1188_01.row.toRowW) s
noncomputable def looks0(w:World)(s:Shared):Bool:=staticsOk (importedModules P0.main.body) (boot_heap w.params) s.heap&&namesBound P0 s.heap&&gensDone s&&laidKept (boot_heap w.params) s.heap
structure FactsK(K:Frag):Prop where
 f0:fnTab0.map (fun p=>kM K p.1)=fnTab0.map sigRow
 f1:fnTab1.map (fun p=>kM K p.1)=fnTab1.map sigRow
 f2:fnTab2.map (fun p=>kM K p.1)=fnTab2.map sigRow
 f3:fnTab3.map (fun p=>kM K p.1)=fnTab3.map sigRow
 f4:fnTab4.map (fun p=>kM K p.1)=fnTab4.map sigRow
 f5:fnTab5.map (fun p=>kM K p.1)=fnTab5.map sigRow
 f6:kM K 328=some ((zQ "expand" [.none] (yN 26)).qual,(zQ "expand" [.none] (yN 26)).params,(zQ "expand" [.none] (yN 26)).body,(zQ "expand" [.none] (yN 26)).scope,.ref 321)
 f7:K.lookup 321=some (xX #[.none] 0)
 f8:kM K 379=some ((zQ "Caps.has" [.tup []] (yD 33 2)).qual,(zQ "Caps.has" [.tup []] (yD 33 2)).params,(zQ "Caps.has" [.tup []] (yD 33 2)).body,(zQ "Caps.has" [.tup []] (yD 33 2)).scope,.ref 372)
 f9:K.lookup 372=some (xX #[.ref 371] 0)
 f10:K.lookup 371=some (xX #[] 0)
 f11:kM K 388=some ((zQ "Caps.told" [.tup []] (yD 33 3)).qual,(zQ "Caps.told" [.tup []] (yD 33 3)).params,(zQ "Caps.told" [.tup []] (yD 33 3)).body,(zQ "Caps.told" [.tup []] (yD 33 3)).scope,.ref 381)
 f12:K.lookup 381=some (xX #[.ref 380] 0)
 f13:K.lookup 380=some (xX #[] 0)
 f14:kM K 467=some ((zQ "Info.__init__" [.tup []] (yD 41 0)).qual,(zQ "Info.__init__" [.tup []] (yD 41 0)).params,(zQ "Info.__init__" [.tup []] (yD 41 0)).body,(zQ "Info.__init__" [.tup []] (yD 41 0)).scope,.ref 460)
 f15:K.lookup 460=some (xX #[.ref 459] 0)
 f16:K.lookup 459=some (xX #[] 0)
 f17:clsTab.all (clsChk K)=true
 f18:globA.all (globChk K)=true
 f19:globB.all (globChk K)=true
 f20:(K.lookup mainGlobals).isSome=true
 f21:nsIn K mainGlobals "law" = some (some (.ref 569))
 f22:kM K 569=some (lawFi.qual,lawFi.params,lawFi.body,lawFi.scope,.none)
 f23:fnCode K 569=some (.ref 568)
 f24:codeHdIn K 568 566=true
structure Facts(w:World):Prop where
 k:FactsK (KW w)
 f25:(T1 w).tree.get 566=some (tabObj #[])
 f26:asL.all (fun a=>Nat.blt a (T1 w).n&&!(a==566))=true
 f27:Nat.blt 566 (T1 w).n=true
theorem run1(w:World):runR w=some (.next,T1 w,cE,posE)/\looks0 w (T1 w).abs=true/\openSeen q0 looseL (importedModules P0.main.body) Xt0 true (T1 w).abs=openGood q0 looseL/\Facts w :=
 ⟨by kernel_rfl,by kernel_rfl,by kernel_rfl,⟨by kernel_rfl,by kernel_rfl,by kernel_rfl,by kernel_rfl,by kernel_rfl,by kernel_rfl,by kernel_rfl,by kernel_rfl,by kernel_rfl,by kernel_rfl,by kernel_rfl,by kernel_rfl,by kernel_rfl,by kernel_rfl,by kernel_rfl,by kernel_rfl,by kernel_rfl,by kernel_rfl,by kernel_rfl,by kernel_rfl,by kernel_rfl,by kernel_rfl,by kernel_rfl,by kernel_rfl,by kernel_rfl⟩,by kernel_rfl,by kernel_rfl,by kernel_rfl⟩
end Mine
end
section
set_option tactic.hygienic false
set_option backward.match.sparseCases false
namespace Mine
mutual
noncomputable def ren(ι:List Nat):V->V
 | .loc i=>.loc (ι.getD i 0)
 | .tup vs=>.tup (xZ ι vs)
 | .lst vs=>.lst (xZ ι vs)
 | .obj c ns vs=>.obj c ns (xZ ι vs)
 | .dct ks vs=>.dct (xZ ι ks) (xZ ι vs)
 | v=>v
noncomputable def xZ(ι:List Nat):List V->List V
 | []=>[]
 | v::vs=>ren ι v::xZ ι vs
end
mutual
noncomputable def Clo(k:Nat):V->Prop
 | .loc i=>i < k
 | .tup vs=>yR k vs
 | .lst vs=>yR k vs
 | .obj _ _ vs=>yR k vs
 | .dct ks vs=>yR k ks/\yR k vs
 | _=>True
noncomputable def yR(k:Nat):List V->Prop
 | []=>True
 | v::vs=>Clo k v/\yR k vs
end
noncomputable def renO(ι:List Nat):O->O
 | .list vs=>.list (xZ ι vs)
 | .dict ks vs=>.dict (xZ ι ks) (xZ ι vs)
 | .attrs ns vs=>.attrs ns (xZ ι vs)
 | .inst c j=>.inst c (ι.getD j 0)
 | .cell (some v)=>.cell (some (ren ι v))
 | .clo q x sc body cs=>.clo q x sc body (cs.map fun p=>(p.1,ι.getD p.2 0))
 | o=>o
noncomputable def CloO(k:Nat):O->Prop
 | .list vs=>yR k vs
 | .dict ks vs=>yR k ks/\yR k vs
 | .attrs _ vs=>yR k vs
 | .inst _ j=>j < k
 | .cell (some v)=>Clo k v
 | .clo _ _ _ _ cs=>∀ p∈cs,p.2 < k
 | _=>True
theorem leaf_ren{ι:List Nat}{v:V}(l:leafV v=true):ren ι v=v:=by
 induction v using Mine.V.casesOn <;> first | rfl | exact fne l
theorem hash_ren(w:World)(ι:List Nat):(∀ v,xK w (ren ι v)=xK w v)/\∀ v,xL w (xZ ι v)=xL w v:=by
 refine V.ind rfl (fun x xs ix ixs=>?_) (fun vs ih=>?_) (fun _ _=>rfl) (fun _=>rfl) (fun _=>rfl) (fun _ _ _ _=>rfl) (fun _ _ _ _=>rfl) (fun _=>rfl) fun v l=>by rw [leaf_ren l]
 ·show xK w (ren ι x)::xL w (xZ ι xs)=xK w x::xL w xs
  rw [ix,ixs]
 ·show reduceHash (Builtin.Tuple.tupleHashOf (xL w (xZ ι vs)))=reduceHash (Builtin.Tuple.tupleHashOf (xL w vs))
  rw [ih]
theorem hashL_ren(w:World)(ι:List Nat)(v:List V):xL w (xZ ι v)=xL w v:=(hash_ren w ι).2 v
theorem ren_clo2(ι:List Nat):(∀ v,Clo 0 v->ren ι v=v)/\∀ v,yR 0 v->xZ ι v=v :=
 V.ind (fun _=>rfl) (fun x xs ix ixs h=>by show ren ι x::xZ ι xs=_;rw [ix h.1,ixs h.2]) (fun vs ih h=>by show V.tup (xZ ι vs)=_;rw [ih h]) (fun vs ih h=>by show V.lst (xZ ι vs)=_;rw [ih h]) (fun _ _=>rfl) (fun _ _=>rfl) (fun c ns vs ih h=>by show V.obj c ns (xZ ι vs)=_;rw [ih h])
  (fun ks vs i1 i2 h=>by show V.dct (xZ ι ks) (xZ ι vs)=_;rw [i1 h.1,i2 h.2]) (fun _ h=>absurd h (Nat.not_lt_zero _)) fun _ l _=>leaf_ren l
theorem ren_clo(ι:List Nat)(v:V)(h:Clo 0 v):ren ι v=v:=(ren_clo2 ι).1 v h
theorem yZ(ι:List Nat)(v:List V)(h:yR 0 v):xZ ι v=v:=(ren_clo2 ι).2 v h
section
variable{w:World}{own:List Addr}{ρ ρ':List Addr}{h:Heap}{ι:List Nat}{k:Nat}
theorem den_ren2(hr:∀ i a,i < k->ρ'[i]?=some a->ρ[ι.getD i 0]?=some a):(∀ (V:V) (v:Value),Clo k V->Den w own ρ' h V v->Den w own ρ h (ren ι V) v)/\∀ (V:List V) (v:List Value),yR k V->DenL w own ρ' h V v->DenL w own ρ h (xZ ι V) v:=by
 refine V.ind (fun _ _ e=>e) (fun x xs ix ixs v hc d=>?_) (fun vs ih v hc d=>?_) (fun vs ih v hc d=>?_) (fun _ _ _ e=>e) (fun _ _ _ e=>e) (fun c ns vs ih v hc d=>?_) (fun ks vs i1 i2 v hc d=>?_) (fun i v hc d=>?_) fun v l x _ d=>?_
 ·obtain ⟨y,ys,e,d,dl⟩:=d;exact ⟨y,ys,e,ix y hc.1 d,ixs ys hc.2 dl⟩
 ·obtain ⟨a,its,n,e,na,g,d⟩:=d;exact ⟨a,its,n,e,na,g,ih _ hc d⟩
 ·obtain ⟨a,its,n,e,na,g,d⟩:=d;exact ⟨a,its,n,e,na,g,ih _ hc d⟩
 ·obtain ⟨a,dx,es,n,e,na,nd,g,gd,ks,d⟩:=d;exact ⟨a,dx,es,n,e,na,nd,g,gd,ks,ih _ hc d⟩
 ·obtain ⟨a,es,n,e,nm,na,g,hh,d1,d2⟩:=d;exact ⟨a,es,n,e,nm,na,g,hh.trans (hashL_ren w ι ks).symm,i1 _ hc.1 d1,i2 _ hc.2 d2⟩
 ·obtain ⟨a,e,q⟩:=d;exact ⟨a,e,hr i a hc q⟩
 ·refine rwp (leaf_ren l) ?_;exact leaf_den l d
theorem den_ren(hr:∀ i a,i < k->ρ'[i]?=some a->ρ[ι.getD i 0]?=some a)(V:V)(v:Value)(hc:Clo k V)(d:Den w own ρ' h V v):Den w own ρ h (ren ι V) v:=(den_ren2 hr).1 V v hc d
theorem denL_ren(hr:∀ i a,i < k->ρ'[i]?=some a->ρ[ι.getD i 0]?=some a)(V:List V)(v:List Value)(hc:yR k V)(d:DenL w own ρ' h V v):DenL w own ρ h (xZ ι V) v:=(den_ren2 hr).2 V v hc d
theorem den_ren3(hr:∀ i a,i < k->ρ[ι.getD i 0]?=some a->ρ'[i]?=some a):(∀ (V:V) (v:Value),Clo k V->Den w own ρ h (ren ι V) v->Den w own ρ' h V v)/\∀ (V:List V) (v:List Value),yR k V->DenL w own ρ h (xZ ι V) v->DenL w own ρ' h V v:=by
 refine V.ind (fun _ _ e=>e) (fun x xs ix ixs v hc d=>?_) (fun vs ih v hc d=>?_) (fun vs ih v hc d=>?_) (fun _ _ _ e=>e) (fun _ _ _ e=>e) (fun c ns vs ih v hc d=>?_) (fun ks vs i1 i2 v hc d=>?_) (fun i v hc d=>?_) fun v l x _ d=>?_
 ·obtain ⟨y,ys,e,d,dl⟩:=d;exact ⟨y,ys,e,ix y hc.1 d,ixs ys hc.2 dl⟩
 ·obtain ⟨a,its,n,e,na,g,d⟩:=d;exact ⟨a,its,n,e,na,g,ih _ hc d⟩
 ·obtain ⟨a,its,n,e,na,g,d⟩:=d;exact ⟨a,its,n,e,na,g,ih _ hc d⟩
 ·obtain ⟨a,dx,es,n,e,na,nd,g,gd,ks,d⟩:=d;exact ⟨a,dx,es,n,e,na,nd,g,gd,ks,ih _ hc d⟩
 ·obtain ⟨a,es,n,e,nm,na,g,hh,d1,d2⟩:=d;exact ⟨a,es,n,e,nm,na,g,hh.trans (hashL_ren w ι ks),i1 _ hc.1 d1,i2 _ hc.2 d2⟩
 ·obtain ⟨a,e,q⟩:=d;exact ⟨a,e,hr i a hc q⟩
 ·rw [leaf_ren l] at d;exact leaf_den l d
theorem den_ren'(hr:∀ i a,i < k->ρ[ι.getD i 0]?=some a->ρ'[i]?=some a)(V:V)(v:Value)(hc:Clo k V)(d:Den w own ρ h (ren ι V) v):Den w own ρ' h V v:=(den_ren3 hr).1 V v hc d
theorem qN(hr:∀ i a,i < k->ρ[ι.getD i 0]?=some a->ρ'[i]?=some a)(V:List V)(v:List Value)(hc:yR k V)(d:DenL w own ρ h (xZ ι V) v):DenL w own ρ' h V v:=(den_ren3 hr).2 V v hc d
theorem lookup_map2{f:Nat->Nat}{y:Str}:∀ {cs:List (Str×Nat)} {i:Nat},(cs.map fun p=>(p.1,f p.2)).lookup y=some i->∃ j,cs.lookup y=some j/\i=f j/\(y,j)∈cs:=by
 intro zv;induction zv with
 | nil =>
  intro _ e;cases e
 | cons zp cs ih =>
  intro i e;obtain ⟨x,j⟩:=zp;rw [List.map_cons,List.lookup_cons] at e;refine rwp List.lookup_cons ?_;cases hb:y==x with
  | true=>rw [hb] at e;cases e;refine rwp (eq_of_beq hb) ?_;exact ⟨j,rfl,rfl,.head _⟩
  | false=>rw [hb] at e;obtain ⟨j',h1,h2,h3⟩:=ih e;exact ⟨j',h1,h2,.tail _ h3⟩
theorem lookup_map1{f:Nat->Nat}{y:Str}:∀ {cs:List (Str×Nat)} {j:Nat},cs.lookup y=some j->(cs.map fun p=>(p.1,f p.2)).lookup y=some (f j)/\(y,j)∈cs:=by
 intro zv;induction zv with
 | nil =>
  intro _ e;cases e
 | cons zp cs ih =>
  intro i e;obtain ⟨x,j⟩:=zp;rw [List.lookup_cons] at e;refine rwp List.map_cons ?_;refine rwp List.lookup_cons ?_;cases hb:y==x with
  | true=>rw [hb] at e;cases e;refine rwp (eq_of_beq hb) ?_;exact ⟨rfl,.head _⟩
  | false=>rw [hb] at e;obtain ⟨h1,h2⟩:=ih e;exact ⟨h1,.tail _ h2⟩
theorem oden_ren(hr:∀ i a,i < k->ρ'[i]?=some a->ρ[ι.getD i 0]?=some a)(X:O)(o:Obj)(hc:CloO k X)(D:ODen w own ρ' h X o):ODen w own ρ h (renO ι X) o:=by
 induction X using Mine.O.casesOn with
 | list=>obtain ⟨its,n,e,d⟩:=D;exact ⟨its,n,e,denL_ren hr _ _ hc d⟩
 | dict=>obtain ⟨es,n,e,hh,d1,d2⟩:=D;exact ⟨es,n,e,hh.trans (hashL_ren w ι _).symm,denL_ren hr _ _ hc.1 d1,denL_ren hr _ _ hc.2 d2⟩
 | attrs=>obtain ⟨es,n,e,hh,d2⟩:=D;exact ⟨es,n,e,hh,denL_ren hr _ _ hc d2⟩
 | inst _ j=>obtain ⟨dx,e,q⟩:=D;exact ⟨dx,hr j dx hc e,q⟩
 | cell v=>induction v using Option.casesOn with
  | none=>exact D
  | some V=>obtain ⟨v,e,d⟩:=D;exact ⟨v,e,den_ren hr _ _ hc d⟩
 | clo =>
  apply gk;intro J;obtain ⟨ps,cl,pm,ctv,c',e,hx,n,z,y⟩:=D;apply J;clear J;refine ⟨ps,cl,pm,ctv,c',e,hx,n,z,fun y' i e=>?_⟩;apply gk;intro J;obtain ⟨j,h1,h2,h3⟩:=lookup_map2 (f:=fun i=>ι.getD i 0) e;apply J;clear J;exact (y y' j h1).imp fun a q=>⟨q.1,h2 ▸ hr j a (hc _ h3) q.2⟩
 | _=>exact D
theorem oden_ren'(hr:∀ i a,i < k->ρ[ι.getD i 0]?=some a->ρ'[i]?=some a)(X:O)(o:Obj)(hc:CloO k X)(D:ODen w own ρ h (renO ι X) o):ODen w own ρ' h X o:=by
 induction X using Mine.O.casesOn with
 | list=>obtain ⟨its,n,e,d⟩:=D;exact ⟨its,n,e,qN hr _ _ hc d⟩
 | dict=>obtain ⟨es,n,e,hh,d1,d2⟩:=D;exact ⟨es,n,e,hh.trans (hashL_ren w ι _),qN hr _ _ hc.1 d1,qN hr _ _ hc.2 d2⟩
 | attrs=>obtain ⟨es,n,e,hh,d2⟩:=D;exact ⟨es,n,e,hh,qN hr _ _ hc d2⟩
 | inst _ j=>obtain ⟨dx,e,q⟩:=D;exact ⟨dx,hr j dx hc e,q⟩
 | cell v=>induction v using Option.casesOn with
  | none=>exact D
  | some V=>obtain ⟨v,e,d⟩:=D;exact ⟨v,e,den_ren' hr _ _ hc d⟩
 | clo =>
  obtain ⟨ps,cl,pm,ctv,c',e,hx,n,z,y⟩:=D;refine ⟨ps,cl,pm,ctv,c',e,hx,n,z,fun y' j e=>?_⟩;obtain ⟨h1,h3⟩:=lookup_map1 (f:=fun i=>ι.getD i 0) e;exact (y y' _ h1).imp fun a q=>⟨q.1,hr j a (hc _ h3) q.2⟩
 | _=>exact D
end
mutual
noncomputable def Frz(k:Nat)(σ:List O):V->V->Prop
 | .loc i,u=>(i < k/\u=.loc i)\/(k<=i/\∃ vs,σ[i]?=some (.list vs)/\yR k vs/\u=.lst vs)
 | .tup vs,u=>∃ us,u=.tup us/\FrzL k σ vs us
 | v,u=>Clo k v/\u=v
noncomputable def FrzL(k:Nat)(σ:List O):List V->List V->Prop
 | [],us=>us=[]
 | v::vs,us=>∃ u us',us=u::us'/\Frz k σ v u/\FrzL k σ vs us'
end
noncomputable def putS(ι:List Nat)(σ:List O)(is:List Nat)(Xs:List O):List O:=match is with
 | []=>σ
 | i::is=>match Xs with
  | []=>σ
  | X::Xs=>putS ι (σ.set i (renO ι X)) is Xs
termination_by structural is
theorem putS_len(ι:List Nat)(is:List Nat):∀ (Xs σ:List O),(putS ι σ is Xs).length=σ.length:=by
 induction is with
 | nil=>intro Xs σ;rfl
 | cons i is ih =>
  intro Xs σ;induction Xs using List.casesOn with
  | nil=>rfl
  | cons X Xs=>exact (ih Xs _).trans List.length_set
theorem putS_other(ι:List Nat)(is:List Nat):∀ (Xs σ:List O) (j:Nat),j∉is->(putS ι σ is Xs)[j]?=σ[j]?:=by
 induction is with
 | nil=>intro Xs σ j _;rfl
 | cons i is ih =>
  intro Xs σ j h;induction Xs using List.casesOn with
  | nil=>rfl
  | cons X Xs=>exact (ih Xs _ j fun q=>h (.tail _ q)).trans (List.getElem?_set_ne (show i≠j from fun q=>h (by refine rwp q ?_;exact .head _)))
theorem putS_at(ι:List Nat)(is:List Nat):∀ (Xs σ:List O) (n j:Nat) (X:O),is.Nodup->(∀ i∈is,i < σ.length)->is[n]?=some j->Xs[n]?=some X->(putS ι σ is Xs)[j]?=some (renO ι X):=by
 induction is with
 | nil=>intro Xs σ n j X _ _ e _;exact zK (List.getElem?_nil.symm.trans e)
 | cons i is ih =>
  intro Xs σ n j Y hn hl e1 e2;induction Xs using List.casesOn with
  | nil=>exact zK (List.getElem?_nil.symm.trans e2)
  | cons X Xs=>induction n using Nat.casesAuxOn with
   | zero =>
    refine rwp (Option.some.inj e1).symm ?_;refine rwp (Option.some.inj e2).symm ?_;exact (putS_other ι is Xs _ _ (List.nodup_cons.mp hn).1).trans (List.getElem?_set_self (hl _ (.head _)))
   | succ n=>exact ih Xs _ n j Y (List.nodup_cons.mp hn).2 (fun i q=>by refine rwp List.length_set ?_;exact hl i (.tail _ q)) e1 e2
noncomputable def Post(ι:List Nat)(σ:List O)(Q:V->List O->Prop):V->List O->Prop:=fun v σ' =>
 ∃ u,Frz ι.length σ' v u/\(∀ j X,j < ι.length->σ'[j]?=some X->CloO ι.length X)/\Q (ren ι u) (putS ι σ ι (σ'.take ι.length))
section
variable{prog:Program}{w:World}{K:Frag}{mb:Str->Option Value}{A:Around}{own ρ:List Addr}{L:Addr}{m:Loc}{σ:List O}{s:Shared}{R n:Nat}{T:Tabs}
theorem den_less{own':List Addr}{h:Heap}(k:∀ a∈own,a∈own'){V:V}{v:Value}(d:Den w own' ρ h V v):Den w own ρ h V v:=d.mono (Ev.less k) fun _ _ q=>q
theorem denL_less{own':List Addr}{h:Heap}(k:∀ a∈own,a∈own'){V:List V}{v:List Value}(d:DenL w own' ρ h V v):DenL w own ρ h V v:=d.mono (Ev.less k) fun _ _ q=>q
theorem oden_less{own':List Addr}{h:Heap}(k:∀ a∈own,a∈own'){X:O}{o:Obj}(d:ODen w own' ρ h X o):ODen w own ρ h X o:=d.mono (Ev.less k) fun _ _ q=>q
theorem leaf_frz{k:Nat}{σ:List O}{v u:V}(l:leafV v=true)(h:Frz k σ v u):Clo k v/\u=v:=by
 induction v using Mine.V.casesOn <;> first | exact h | exact fne l
theorem frz_den2{own' ρ':List Addr}{m':Loc}{σ':List O}{ι:List Nat}{h:Heap}(S:Sat w own' L ρ' m' σ' h)(less:∀ a∈own,a∈own')(hρ:∀ i a,i < ι.length->ρ'[i]?=some a->ρ[ι.getD i 0]?=some a)
  (new:∀ i a,ι.length<=i->ρ'[i]?=some a->a∉own):(∀ (v u:V) (x:Value),Frz ι.length σ' v u->Den w own' ρ' h v x->Den w own ρ h (ren ι u) x)/\∀ (v u:List V) (x:List Value),FrzL ι.length σ' v u->DenL w own' ρ' h v x->DenL w own ρ h (xZ ι u) x:=by
 have gen:∀ (v u:V) (x:Value),Clo ι.length v/\u=v->Den w own' ρ' h v x->Den w own ρ h (ren ι u) x:=fun v u x hf d=>by
  refine rwp hf.2 ?_;exact den_ren (k:=ι.length) hρ _ _ hf.1 (den_less less d)
 refine V.ind (fun u x hf d=>?_) (fun v vs iv ivs u x hf d=>?_) (fun vs ih u x hf d=>?_) (fun _ _=>gen _) (fun _=>gen _) (fun _=>gen _) (fun _ _ _ _=>gen _) (fun _ _ _ _=>gen _) (fun i u x hf d=>?_) fun v l u x hf d=>gen v u x (leaf_frz l hf) d
 ·refine rwp (show u=[] from hf) ?_;exact d
 ·apply gk;intro J;obtain ⟨y,ys,e,d,dl⟩:=d;obtain ⟨u',us,eu,h1,h2⟩:=hf;apply J;clear J;refine rwp eu ?_;exact ⟨y,ys,e,iv u' y h1 d,ivs us ys h2 dl⟩
 ·apply gk;intro J;obtain ⟨a,its,n,e,na,g,d⟩:=d;obtain ⟨us,eu,hus⟩:=hf;apply J;clear J;refine rwp eu ?_;exact ⟨a,its,n,e,fun q=>na (less _ q),g,ih us _ hus d⟩
 ·apply gk;intro J;obtain ⟨a,e,q⟩:=d;apply J;clear J;rcases hf with ⟨h1,eu⟩ | ⟨h1,vs,h2,h3,eu⟩
  ·refine rwp eu ?_;exact ⟨a,e,hρ i a h1 q⟩
  ·apply gk;intro J;obtain ⟨o,g,its,n,eo,d⟩:=S.objs i _ a h2 q;apply J;clear J;refine rwp eu ?_;exact ⟨a,its,n,e,new i a h1 q,eo ▸ g,denL_ren (k:=ι.length) hρ _ _ h3 (denL_less less d)⟩
theorem frz_den{own' ρ':List Addr}{m':Loc}{σ':List O}{ι:List Nat}{h:Heap}(S:Sat w own' L ρ' m' σ' h)(less:∀ a∈own,a∈own')(hρ:∀ i a,i < ι.length->ρ'[i]?=some a->ρ[ι.getD i 0]?=some a)
  (new:∀ i a,ι.length<=i->ρ'[i]?=some a->a∉own) (v u:V) (x:Value) (hf:Frz ι.length σ' v u) (d:Den w own' ρ' h v x):Den w own ρ h (ren ι u) x:=(frz_den2 S less hρ new).1 v u x hf d
theorem getD_of{ι:List Nat}{j i:Nat}(h:ι[j]?=some i):ι.getD j 0=i:=by refine rwp List.getD_eq_getElem?_getD ?_;refine rwp h ?_;rfl
theorem spec_of2{f:Addr}{sp:xM}{R':Nat}(H:∀ args σ Q,sp args σ Q->∃ T n ι args' σs Q',TabsOk prog w K mb R' T/\R'+(n+1) / 2<=R/\ι.Nodup/\(∀ i∈ι,i < σ.length)/\yR ι.length args'/\args=xZ ι args'/\σs.length=ι.length /\
   (∀ j X,σs[j]?=some X->CloO ι.length X/\σ[ι.getD j 0]?=some (renO ι X))/\wpF T n f args' σs Q'/\∀ v σ',Q' v σ'->Post ι σ Q v σ'):SpecOk prog w K mb R f sp:=by
 intro A own L ρ m σ s args vargs Q hA st S d hsp;apply gk;intro J;obtain ⟨T,n,ι,args',σs,Q',hT,hR,hn,hlt,hc,rfl,hl,hσ,hw,hQ⟩:=H args σ Q hsp;apply J;clear J;have hat:∀ j i,ι[j]?=some i->∃ a,ρ[i]?=some a:=fun j i e=>⟨_,List.getElem?_eq_getElem (by rw [S.len];exact hlt i (List.mem_of_getElem? e))⟩
 have hρs:∃ ρs:List Addr,ρs.length=ι.length/\∀ (j:Nat) i,ι[j]?=some i->ρs[j]?=ρ[i]?:=by
  refine ⟨ι.map fun i=>ρ.getD i 0,by simp,fun j i e=>?_⟩;apply gk;intro J;obtain ⟨a,ha⟩:=hat j i e;apply J;clear J;rw [List.getElem?_map,e,ha];simp [List.getD_eq_getElem?_getD,ha]
 apply gk;intro J;obtain ⟨ρs,hρl,hρs⟩:=hρs;apply J;clear J;have hin:∀ (j:Nat) a,ρs[j]?=some a->∃ i,ι[j]?=some i/\ρ[i]?=some a:=fun j a e=>by
  have hj:j < ι.length:=by rw [<- hρl];exact (List.getElem?_eq_some_iff.mp e).1
  refine ⟨ι[j],List.getElem?_eq_getElem hj,?_⟩;rw [<- hρs j _ (List.getElem?_eq_getElem hj)];exact e
 have hmem:∀ a∈ρs,a∈ρ:=fun a ha=>by
  apply gk;intro J;obtain ⟨j,hj⟩:=List.getElem?_of_mem ha;obtain ⟨i,_,h2⟩:=hin j a hj;apply J;clear J;exact List.mem_of_getElem? h2
 have inj:∀ (i i':Nat) a,ρ[i]?=some a->ρ[i']?=some a->i=i':=fun i i' a e1 e2=>by
  apply gk;intro J;obtain ⟨h1,h2⟩:=List.getElem?_eq_some_iff.mp e1;obtain ⟨h3,h4⟩:=List.getElem?_eq_some_iff.mp e2;apply J;clear J;exact (List.getElem_inj S.nodup).mp (h2.trans h4.symm)
 have injι:∀ (j j':Nat) i,ι[j]?=some i->ι[j']?=some i->j=j':=fun i i' a e1 e2=>by
  apply gk;intro J;obtain ⟨h1,h2⟩:=List.getElem?_eq_some_iff.mp e1;obtain ⟨h3,h4⟩:=List.getElem?_eq_some_iff.mp e2;apply J;clear J;exact (List.getElem_inj hn).mp (h2.trans h4.symm)
 have back:∀ (i:Nat) a,i < ι.length->ρ[ι.getD i 0]?=some a->ρs[i]?=some a:=fun i a hi e=>by
  rw [hρs i _ (List.getElem?_eq_getElem hi),<- e,getD_of (List.getElem?_eq_getElem hi)]
 have nd:ρs.Nodup:=by
  rw [List.Nodup,List.pairwise_iff_getElem];intro i j hi hj hij e;apply gk;intro J;obtain ⟨x,x1,x2⟩:=hin j _ (List.getElem?_eq_getElem hj);obtain ⟨y,y1,y2⟩:=hin i _ (List.getElem?_eq_getElem hi);apply J;clear J;rw [<- e] at x2;obtain rfl:=inj _ _ _ x2 y2;exact Nat.ne_of_lt hij (injι _ _ _ y1 x1)
 have S0:Sat w own L ρs [] σs s.heap:=by
  apply gk;intro J;obtain ⟨mm,hns,_⟩:=S.fr;apply J;clear J;refine ⟨hρl.trans hl.symm,nd,fun q=>S.nl (hmem _ q),fun a ha=>?_,S.lt,fun i X a e1 e2=>?_,mm,hns,fun x V e=>by cases e⟩
  ·rcases List.mem_cons.mp ha with q | q
   ·exact S.sub a (q ▸ .head _)
   ·exact S.sub a (.tail _ (hmem _ q))
  ·apply gk;intro J;obtain ⟨c1,c2⟩:=hσ i X e1;obtain ⟨j,j1,j2⟩:=hin i a e2;rw [getD_of j1] at c2;obtain ⟨o,g,d⟩:=S.objs j _ a c2 j2;apply J;clear J;exact ⟨o,g,oden_ren' (k:=ι.length) back X o c1 d⟩
 have d0:DenL w own ρs s.heap args' vargs:=qN (k:=ι.length) back args' vargs hc d;refine codeAny_mono ((all_ok hT n).f hw (hA.less hR) st S0 d0) fun r s' z=>?_;apply gk;intro J;obtain ⟨⟨v,rfl,own',ρ',c,σ',x,S',dv,q'⟩,hL⟩:=z;obtain ⟨u,hf,hcl,q⟩:=hQ c σ' q';apply J;clear J;have pre:∀ (i:Nat) a,i < ι.length->ρ'[i]?=some a->ρs[i]?=some a:=fun i a hi e=>by
  obtain ⟨b,hb⟩:∃ b,ρs[i]?=some b:=⟨_,List.getElem?_eq_getElem (by rw [hρl];exact hi)⟩
  have:=x.pre i b hb;rw [e] at this;rw [hb,this]
 have fwd:∀ (i:Nat) a,i < ι.length->ρ'[i]?=some a->ρ[ι.getD i 0]?=some a:=fun i a hi e=>by
  rw [getD_of (List.getElem?_eq_getElem hi),<- hρs i _ (List.getElem?_eq_getElem hi)];exact pre i a hi e
 have new:∀ (i:Nat) a,ι.length<=i->ρ'[i]?=some a->a∉own:=fun i a hi e q=>by
  by_cases ha:a∈ρs
  ·apply gk;intro J;obtain ⟨j,hj⟩:=List.getElem?_of_mem ha;have h2:=x.pre j a hj;have hjl:j < ι.length:=by rw [<- hρl];exact (List.getElem?_eq_some_iff.mp hj).1
   obtain ⟨h1,h2⟩:=List.getElem?_eq_some_iff.mp e;obtain ⟨h3,h4⟩:=List.getElem?_eq_some_iff.mp (x.pre j a hj);apply J;clear J;have:=(List.getElem_inj S'.nodup).mp (h2.trans h4.symm);lia
  ·exact x.newρ a (S.lt a q) ha (List.mem_of_getElem? e)
 have less:∀ a∈own,a∈own':=x.sub;have keep:∀ a o,s.heap.get? a=some o->a∉ρs->s'.heap.get? a=some o:=fun a o e n=>by
  by_cases ha:a=L
  ·subst ha;exact hL o e
  ·exact x.keep a o e fun q=>by
    rcases List.mem_cons.mp q with q | q
    ·exact ha q
    ·exact n q
 have ev:Ev own s.heap own s'.heap:=fun a o e n=>⟨keep a o e fun q=>n (S.sub a (.tail _ (hmem _ q))),n⟩
 have hσ'l:ι.length<=σ'.length:=by
  rw [<- S'.len,<- hρl];by_cases h0:ρs.length=0
  ·lia
  ·obtain ⟨b,hb⟩:∃ b,ρs[ρs.length - 1]?=some b:=⟨_,List.getElem?_eq_getElem (by lia)⟩
   have:=(List.getElem?_eq_some_iff.mp (x.pre _ b hb)).1;lia
 have Sn:Sat w own L ρ m (putS ι σ ι (σ'.take ι.length)) s'.heap:=by
  refine ⟨by rw [putS_len];exact S.len,S.nodup,S.nl,S.sub,fun a q=>Nat.lt_of_lt_of_le (S.lt a q) x.size,fun i X a e1 e2=>?_,S.fr.mono ev (fun _ _ q=>q) fun o e=>hL o e⟩;by_cases hi:i∈ι
  ·apply gk;intro J;obtain ⟨j,hj⟩:=List.getElem?_of_mem hi;have hjl:j < ι.length:=(List.getElem?_eq_some_iff.mp hj).1;obtain ⟨Y,hY⟩:∃ Y,σ'[j]?=some Y:=⟨_,List.getElem?_eq_getElem (Nat.lt_of_lt_of_le hjl hσ'l)⟩
   apply J;clear J;rw [putS_at ι ι _ σ j i Y hn hlt hj (by rw [List.getElem?_take,if_pos hjl];exact hY)] at e1;cases e1;have ha:ρs[j]?=some a:=by rw [hρs j i hj];exact e2
   apply gk;intro J;obtain ⟨o,g,d⟩:=S'.objs j Y a hY (x.pre j a ha);apply J;clear J;exact ⟨o,g,oden_ren (k:=ι.length) fwd Y o (hcl j Y hjl hY) (oden_less less d)⟩
  ·rw [putS_other ι ι _ σ i hi] at e1;apply gk;intro J;obtain ⟨o,g,d⟩:=S.objs i X a e1 e2;apply J;clear J;refine ⟨o,keep a o g fun q=>?_,d.mono ev fun _ _ q=>q⟩;apply gk;intro J;obtain ⟨j,hj⟩:=List.getElem?_of_mem q;obtain ⟨i',h1,h2⟩:=hin j a hj;apply J;clear J;obtain rfl:=inj _ _ _ e2 h2;exact hi (List.mem_of_getElem? h1)
 refine ⟨⟨v,rfl,own,ρ,ren ι u,_,⟨x.gens,x.os,fun _ q=>q,fun _ _ q=>q,fun _ _ q=>q,fun _ _ q=>q,x.size,fun a o e n=>keep a o e fun q=>n (.tail _ (hmem _ q))⟩,Sn,frz_den S' less fwd new c u v hf dv,q⟩,hL⟩
theorem spec_of{f:Addr}{sp:xM}{R':Nat}(H:∀ args σ Q,sp args σ Q->∃ T n ι args' σs,TabsOk prog w K mb R' T/\R'+(n+1) / 2<=R/\ι.Nodup/\(∀ i∈ι,i < σ.length)/\yR ι.length args'/\args=xZ ι args'/\σs.length=ι.length /\
   (∀ j X,σs[j]?=some X->CloO ι.length X/\σ[ι.getD j 0]?=some (renO ι X))/\wpF T n f args' σs (Post ι σ Q)):SpecOk prog w K mb R f sp :=
 spec_of2 fun args σ Q h=>gk fun kG=>by
  obtain ⟨T,n,ι,args',σs,a,b,c,d,e,f,g,i,j⟩:=H args σ Q h;exact kG ⟨T,n,ι,args',σs,_,a,b,c,d,e,f,g,i,j,fun _ _ x=>x⟩
end
end Mine
end
section
set_option tactic.hygienic false
set_option backward.match.sparseCases false
namespace Mine
theorem zX{c:Prop}{_:Decidable c}{P Q:Prop}(h1:c->P)(h2:¬ c->Q):ifB (decide c) P Q:=by
 by_cases h:c
 ·refine rwp (decide_eq_true h) ?_;exact h1 h
 ·refine rwp (decide_eq_false h) ?_;exact h2 h
theorem vA{b:Bool}{P Q:Prop}(h1:b=true->P)(h2:b=false->Q):ifB b P Q:=by
 induction b using Bool.casesOn
 ·exact h2 rfl
 ·exact h1 rfl
theorem qB{b:Bool}{P Q:Prop}(h:b=true)(p:P):ifB b P Q:=by subst h;exact p
theorem xC{b:Bool}{P Q:Prop}(h:b=false)(p:Q):ifB b P Q:=by subst h;exact p
noncomputable def fiAt(f:Addr):Fi:=(fnTab.lookup f).getD (zQ "" [] none)
noncomputable def zE(f:Addr):List Stmt:=(fiAt f).body
noncomputable def zG(f:Addr)(k:Nat):Fra:=⟨(fiAt f).scope.names,cellsFrom k (fiAt f).scope.names [],none⟩
noncomputable def part(i j:Nat)(l:List Stmt):List Stmt:=(l.drop i).take (j - i)
noncomputable def nth(i:Nat)(l:List Stmt):Stmt:=l.getD i (.Pass default)
noncomputable def isWh:Stmt->Bool
 | .While _ _ [] _=>true
 | _=>false
noncomputable def whT:Stmt->PySem.Expr
 | .While t _ _ _=>t
 | .If t _ _ _=>t
 | _=>.Constant .none 0 default
noncomputable def whB:Stmt->List Stmt
 | .While _ b _ _=>b
 | .For _ _ b _ _=>b
 | .If _ b _ _=>b
 | .Try b _ _ _ _=>b
 | _=>[]
noncomputable def whO:Stmt->List Stmt
 | .If _ _ o _=>o
 | _=>[]
noncomputable def whL:Stmt->Nat
 | .While _ _ _ p=>p.line
 | .For _ _ _ _ p=>p.line
 | _=>0
noncomputable def isFor:Stmt->Bool
 | .For _ it _ [] _=>(kI it).isNone
 | _=>false
noncomputable def forT:Stmt->PySem.Expr
 | .For t _ _ _ _=>t
 | _=>.Constant .none 0 default
noncomputable def forI:Stmt->PySem.Expr
 | .For _ i _ _ _=>i
 | _=>.Constant .none 0 default
mutual
theorem frz_self{k:Nat}{σ:List O}:∀ v,Clo k v->Frz k σ v v
 | .loc i,h=>.inl ⟨h,rfl⟩
 | .tup vs,h=>⟨vs,rfl,frzL_self vs h⟩
 | .lst vs,h=>⟨h,rfl⟩
 | .obj _ _ vs,h=>⟨h,rfl⟩
 | .dct ks vs,h=>⟨h,rfl⟩
 | .none,h | .bool _,h | .int _,h | .str _,h | .bytes _,h | .barr _,h | .rng _,h | .ref _,h | .bi _,h | .ty _,h=>⟨h,rfl⟩
theorem frzL_self{k:Nat}{σ:List O}:∀ v,yR k v->FrzL k σ v v
 | [],_=>rfl
 | v::vs,h=>⟨v,vs,rfl,frz_self v h.1,frzL_self vs h.2⟩
end
theorem pure_end{v:V}{σ σ':List O}{Q:V->List O->Prop}(h:Clo 0 v)(q:Q v σ):∃ u,Frz 0 σ' v u/\Q (ren [] u) σ:=⟨v,frz_self v h,by refine rwp (ren_clo _ _ h) ?_;exact q⟩
section
variable{T:Tabs}{n:Nat}{F:Fra}{m:Loc}{σ:List O}{Q:Fl->Loc->List O->Prop}
noncomputable def kN(k:Loc->List O->Prop)(Q:Fl->Loc->List O->Prop):Fl->Loc->List O->Prop:=fun fl m σ=>match fl with
 | .next=>k m σ
 | fl=>Q fl m σ
noncomputable def retK(Q:V->List O->Prop):Fl->Loc->List O->Prop:=fun fl _ σ=>match fl with
 | .ret v=>Q v σ
 | .next=>Q .none σ
 | _=>False
noncomputable def loopK(I:Nat->Loc->List O->Prop)(k:Nat)(Q:Fl->Loc->List O->Prop):Fl->Loc->List O->Prop:=fun fl m σ=>match fl with
 | .next=>∃ k',k' < k/\I k' m σ
 | .cont=>∃ k',k' < k/\I k' m σ
 | .brk=>Q .next m σ
 | .ret v=>Q (.ret v) m σ
noncomputable def turnK(I:Nat->Loc->List O->Prop)(k:Nat)(Q:Fl->Loc->List O->Prop):Fl->Loc->List O->Prop:=fun fl m σ=>match fl with
 | .next=>I (k+1) m σ
 | .cont=>I (k+1) m σ
 | .brk=>Q .next m σ
 | .ret v=>Q (.ret v) m σ
theorem zR{k:Loc->List O->Prop}(h:k m σ):kN k Q .next m σ:=h
theorem wpSs_cons{s:Stmt}{r:List Stmt}:zI T (n+1) F (s::r) m σ Q=wpS T n F s m σ (kN (fun m σ=>zI T n F r m σ Q) Q):=by
 congr 1
theorem wpSs_app{r:List Stmt}:∀ (a:List Stmt) (m:Loc) (σ:List O),zI T (n+1+a.length) F (a++r) m σ Q=zI T (n+1+a.length) F a m σ (kN (fun m σ=>zI T (n+1) F r m σ Q) Q):=by
 intro zv;induction zv with
 | nil =>
  intro m σ;exact rfl
 | cons s a ih =>
  intro m σ;refine rwp List.length_cons ?_;rw [<- Nat.add_assoc];refine rwp List.cons_append ?_;refine rwp wpSs_cons ?_;refine rwp wpSs_cons ?_;congr 1
  funext fl m1 σ1
  induction fl using Mine.Fl.casesOn with
  | next=>exact ih m1 σ1
  | _=>rfl
theorem cut_at{l:List Stmt}{i N:Nat}(hN:N=n+1+i)(hl:i<=l.length)(h:zI T N F (l.take i) m σ (kN (fun m σ=>zI T (n+1) F (l.drop i) m σ Q) Q)):zI T N F l m σ Q:=by
 subst hN;have e:(l.take i).length=i:=by refine rwp List.length_take ?_;simp_all
 have:=wpSs_app (T:=T) (n:=n) (F:=F) (Q:=Q) (r:=l.drop i) (l.take i) m σ;rw [e,List.take_append_drop] at this;refine rwp this ?_;exact h
theorem jC{l:List Stmt}(i j N n:Nat)(hN:N=n+1+i)(hj:j=i+1)(hn:n≠0)(hl:i < l.length)(h:zI T N F (l.take i) m σ (kN (fun m σ=>wpS T n F (nth i l) m σ (kN (fun m σ=>zI T n F (l.drop j) m σ Q) Q)) Q)):zI T N F l m σ Q:=by
 subst hj;obtain ⟨n,rfl⟩:=Nat.exists_eq_succ_of_ne_zero hn;refine cut_at (n:=n+1) (i:=i) (by omega) (Nat.le_of_lt hl) ?_;have e:l.drop i=nth i l::l.drop (i+1):=by
  refine rwp (List.drop_eq_getElem_cons hl) ?_;congr 1
  unfold nth;refine rwp List.getD_eq_getElem?_getD ?_;refine rwp (List.getElem?_eq_getElem hl) ?_;rfl
 refine rwp e ?_;have:(fun m σ=>zI T (n+1+1) F (nth i l::l.drop (i+1)) m σ Q)=fun m σ=>wpS T (n+1) F (nth i l) m σ (kN (fun m σ=>zI T (n+1) F (l.drop (i+1)) m σ Q) Q):=by
  funext m σ;exact wpSs_cons
 refine rwp this ?_;exact h
theorem jI{st:Stmt}{N:Nat}(n:Nat)(hN:N=n+1)(hw:isWh st=true)(hu:T.unroll.contains (whL st)=false)(I:Nat->Loc->List O->Prop)(k:Nat)(h0:I k m σ)
  (h:∀ k m σ,I k m σ->wpT T n F (whT st) m σ fun c σ1=>ifB c (zI T n F (whB st) m σ1 (loopK I k Q)) (Q .next m σ1)):wpS T N F st m σ Q:=by
 subst hN;induction st using PySem.Stmt.casesOn with
 | While t b o p =>
  induction o using List.casesOn with
  | cons _ _=>cases hw
  | nil=>exact chkW_in rfl (ifW_f hu ⟨I,k,h0,fun k m σ hI=>h k m σ hI⟩)
 | _=>first | exact zK hw | exact fne hw | cases hw
theorem forX_in{N:Nat}(n:Nat)(hN:N=n+1){ln:Nat}{t:PySem.Expr}{items:List V}{b:List Stmt}(hu:T.unroll.contains ln=false)(I:Nat->Loc->List O->Prop)(h0:I 0 m σ)
  (h:∀ k x m σ,items[k]?=some x->I k m σ->∃ bs,vC t x=some bs/\xO F bs=true/\zI T n F b (xN m bs) σ (turnK I k Q)) (hd:∀ m σ,I items.length m σ->Q .next m σ):wpX T N F ln t items b m σ Q:=by
 subst hN;refine ifW_f hu ⟨I,h0,fun k x m σ hx hI=>?_,hd⟩;obtain ⟨bs,e,e2,h3⟩:=h k x m σ hx hI;exact qL e ⟨e2,h3⟩
theorem for_in{st:Stmt}{N:Nat}(n:Nat)(hN:N=n+1)(hf:isFor st=true)(h:wpE T n F (forI st) m σ fun a σ1=>yB (kX a) fun vs=>wpX T n F (whL st) (forT st) vs (whB st) m σ1 Q):wpS T N F st m σ Q:=by
 subst hN;induction st using PySem.Stmt.casesOn with
 | For t it b o p =>
  induction o using List.casesOn with
  | cons _ _=>cases hf
  | nil =>
   refine chkW_in rfl (optW_no (Option.isNone_iff_eq_none.mp hf) ?_);exact h
 | _=>first | exact zK hf | exact fne hf | cases hf
noncomputable def callM(f:Addr)(args:List V)(σ:List O):Option (Loc×List O):=(bindA (fiAt f).params args (fiAt f).dfl).bind fun bs=>bindF (zG f σ.length) bs [] (σ++xE (fiAt f).scope.names)
theorem fn_in{f:Addr}{args:List V}{σ:List O}{Q:V->List O->Prop}{m:Loc}{σ1:List O}{N:Nat}(n k:Nat)(hN:N=n+1)(hk:σ.length=k)(h1:T.fns.lookup f=some (fiAt f))(h2:T.specs.lookup f=none)(h3:callM f args σ=some (m,σ1))(h:zI T n (zG f k) (zE f) m σ1 (retK Q)):wpF T N f args σ Q:=by
 subst hN hk;obtain ⟨bs,h3,h4⟩:=Option.bind_eq_some_iff.mp h3;exact qL h1 (optW_no h2 (qL h3 (qL h4 h)))
end
section
variable{prog:Program}{w:World}{K:Frag}{mb:Str->Option Value}{R R':Nat}
theorem jE{f:Addr}{sp:xM}(H:∀ args σ Q,sp args σ Q->yR 0 args/\∃ T n,TabsOk prog w K mb R' T/\R'+(n+1) / 2<=R/\wpF T n f args [] fun v σ'=>∃ u,Frz 0 σ' v u/\Q (ren [] u) σ):SpecOk prog w K mb R f sp :=
 spec_of (R':=R') fun args σ Q h=>by
  obtain ⟨hc,T,n,hT,hR,hw⟩:=H args σ Q h;refine ⟨T,n,[],args,[],hT,hR,List.nodup_nil,fun _ q=>(nomatch q),hc,(yZ _ _ hc).symm,rfl,fun j X e=>by simp at e,?_⟩;have:Post [] σ Q=fun v σ'=>∃ u,Frz 0 σ' v u/\Q (ren [] u) σ:=by
   funext v σ'
   refine propext ⟨fun ⟨u,a,_,b⟩=>⟨u,a,by simpa [putS] using b⟩,fun ⟨u,a,b⟩=>⟨u,a,fun j X hj=>absurd hj (Nat.not_lt_zero _),by simpa [putS] using b⟩⟩
  refine rwp this ?_;exact hw
theorem xU{f:Addr}{sp:xM}(H:∀ args σ Q,sp args σ Q->yR 0 args/\∃ T n,TabsOk prog w K mb R' T/\R'+(n+1) / 2<=R/\wpF T n f args [] fun v _=>Clo 0 v/\Q v σ):SpecOk prog w K mb R f sp :=
 spec_of2 (R':=R') fun args σ Q h=>by
  obtain ⟨hc,T,n,hT,hR,hw⟩:=H args σ Q h;refine ⟨T,n,[],args,[],_,hT,hR,List.nodup_nil,fun _ q=>(nomatch q),hc,(yZ _ _ hc).symm,rfl,fun j X e=>by simp at e,hw,fun v σ' ⟨h1,h2⟩=>⟨v,frz_self v h1,fun j X hj=>absurd hj (Nat.not_lt_zero _),?_⟩⟩;refine rwp (ren_clo _ _ h1) ?_;simpa [putS] using h2
end
end Mine
end
section
set_option tactic.hygienic false
namespace Mine
noncomputable def jK(b:List UInt8)(n:Nat):Bool:=match b[n]? with
 | some c=>decide (48<=c.toNat/\c.toNat<=57)
 | none=>false
noncomputable def spDig:xM:=fun args σ Q=>twoA args fun z0 z1=>zB (yS z0) fun b=>zB (zL z1) fun i =>
  (0<=i/\b.length<=16777216)/\Q (.bool (jK b i.toNat)) σ
theorem spDig_of{args:List V}{σ:List O}{Q:V->List O->Prop}(hh:spDig args σ Q):∃ b i,args=[.bytes b,.int i] /\
  ((0<=i/\b.length<=16777216)/\Q (.bool (jK b i.toNat)) σ):=by
 apply gk;intro J;obtain ⟨z0,z1,rfl,h⟩:=xI hh;obtain ⟨b,e0,h⟩:=zA h;obtain ⟨i,e1,h⟩:=zA h;apply J;clear J;exact ⟨b,i,by rw [zZ e0,zJ e1],h⟩
noncomputable def spNum:xM:=fun args σ Q=>twoA args fun z0 z1=>zB (yS z0) fun b=>zB (zL z1) fun i =>
  (0<=i/\b.length<=16777216/\jK b i.toNat=true/\jK b (i.toNat+1)=false)/\zB b[i.toNat]? fun c=>Q (.tup [.int ((c.toNat:Int) - 48),.int (i+1)]) σ
theorem spNum_of{args:List V}{σ:List O}{Q:V->List O->Prop}(hh:spNum args σ Q):∃ b i,args=[.bytes b,.int i] /\
  ((0<=i/\b.length<=16777216/\jK b i.toNat=true/\jK b (i.toNat+1)=false)/\zB b[i.toNat]? fun c=>Q (.tup [.int ((c.toNat:Int) - 48),.int (i+1)]) σ):=by
 apply gk;intro J;obtain ⟨z0,z1,rfl,h⟩:=xI hh;obtain ⟨b,e0,h⟩:=zA h;obtain ⟨i,e1,h⟩:=zA h;apply J;clear J;exact ⟨b,i,by rw [zZ e0,zJ e1],h⟩
noncomputable def spDelay:xM:=fun args σ Q=>twoA args fun z0 z1=>zB (yS z0) fun b=>zB (zL z1) fun i =>
  (0<=i/\b.length<=100000)/\(match decide (cut b (some i) (some (i+2))=[36,60]) with
  | true=>b.drop i.toNat=[36,60,53,62]/\Q (.tup [.int 50,.bool false,.bool false,.int (i+4)]) σ
  | false=>Q .none σ)
theorem spDelay_of{args:List V}{σ:List O}{Q:V->List O->Prop}(hh:spDelay args σ Q):∃ b i,args=[.bytes b,.int i] /\
  ((0<=i/\b.length<=100000)/\(match decide (cut b (some i) (some (i+2))=[36,60]) with
  | true=>b.drop i.toNat=[36,60,53,62]/\Q (.tup [.int 50,.bool false,.bool false,.int (i+4)]) σ
  | false=>Q .none σ)):=by
 apply gk;intro J;obtain ⟨z0,z1,rfl,h⟩:=xI hh;obtain ⟨b,e0,h⟩:=zA h;obtain ⟨i,e1,h⟩:=zA h;apply J;clear J;exact ⟨b,i,by rw [zZ e0,zJ e1],h⟩
noncomputable def hasDel(b:List UInt8):Bool:=decide (4<=b.length/\b.drop (b.length - 4)=[36,60,53,62])
noncomputable def yQ(b:List UInt8):List UInt8:=match hasDel b with
 | true=>b.take (b.length - 4)
 | false=>b
noncomputable def noDel(b:List UInt8):Prop:=∀ i:Nat,i < (yQ b).length->cut b (some i) (some (i+2))≠[36,60]
noncomputable def spDelays:xM:=fun args σ Q=>jY args fun z0=>zB (yS z0) fun b =>
  (b.length<=100000/\noDel b)/\∀ ds,yR 0 ds->Q (.tup [.bytes (yQ b),.lst ds]) σ
theorem spDelays_of{args:List V}{σ:List O}{Q:V->List O->Prop}(hh:spDelays args σ Q):∃ b,args=[.bytes b] /\
  ((b.length<=100000/\noDel b)/\∀ ds,yR 0 ds->Q (.tup [.bytes (yQ b),.lst ds]) σ):=by
 obtain ⟨z0,rfl,h⟩:=yC hh;obtain ⟨b,e0,h⟩:=zA h;exact ⟨b,by rw [zZ e0],h⟩
noncomputable def spNoDel:xM:=fun args σ Q=>jY args fun z0=>zB (yS z0) fun b =>
  (b.length<=100000/\noDel b)/\Q (.bytes (yQ b)) σ
theorem spNoDel_of{args:List V}{σ:List O}{Q:V->List O->Prop}(hh:spNoDel args σ Q):∃ b,args=[.bytes b] /\
  ((b.length<=100000/\noDel b)/\Q (.bytes (yQ b)) σ):=by
 obtain ⟨z0,rfl,h⟩:=yC hh;obtain ⟨b,e0,h⟩:=zA h;exact ⟨b,by rw [zZ e0],h⟩
noncomputable def digsF(k n:Nat):List UInt8:=match k with
 | 0=>[]
 | k+1=>if n < 10 then [UInt8.ofNat (48+n)] else digsF k (n / 10)++[UInt8.ofNat (48+n%10)]
noncomputable def zF(n:Nat):List UInt8:=digsF (n+1) n
theorem digsF_eq{k:Nat}:∀ {n k':Nat},n < k->n < k'->digsF k n=digsF k' n:=by
 induction k with
 | zero=>intro n k' h _;exact absurd h (Nat.not_lt_zero _)
 | succ k ih =>
  intro n k' h h';induction k' using Nat.casesAuxOn with
  | zero=>exact absurd h' (Nat.not_lt_zero _)
  | succ k' =>
   show (if n < 10 then _ else _)=(if n < 10 then _ else _)
   by_cases hn:n < 10
   ·rw [if_pos hn,if_pos hn]
   ·rw [if_neg hn,if_neg hn,ih (k':=k') (by lia) (by lia)]
theorem qW(n:Nat):zF n=if n < 10 then [UInt8.ofNat (48+n)] else zF (n / 10)++[UInt8.ofNat (48+n%10)]:=by
 show (if n < 10 then _ else _)=_
 by_cases hn:n < 10
 ·rw [if_pos hn,if_pos hn]
 ·rw [if_neg hn,if_neg hn,digsF_eq (k':=n / 10+1) (by lia) (by exact Nat.lt_succ_self _)];rfl
noncomputable def spFig:xM:=fun args σ Q=>qF args fun z0 z1 z2=>zB (zL z0) fun n=>zB (zL z1) fun b=>zB (asBoo z2) fun c=>chk (!c) ((b=10/\0<=n/\n < 1000000000)/\Q (.bytes (zF n.toNat)) σ)
theorem spFig_of{args:List V}{σ:List O}{Q:V->List O->Prop}(hh:spFig args σ Q):∃ n b,args=[.int n,.int b,.bool false]/\((b=10/\0<=n/\n < 1000000000)/\Q (.bytes (zF n.toNat)) σ):=by
 apply gk;intro J;obtain ⟨z0,z1,z2,e,h⟩:=xT hh;obtain ⟨n,e0,h⟩:=zA h;obtain ⟨b,e1,h⟩:=zA h;obtain ⟨c,e2,h⟩:=zA h;obtain ⟨e3,h⟩:=jM h;apply J;clear J;have e3:c=false:=by induction c using Bool.casesOn with
  | false=>rfl
  | true=>exact fne e3
 exact ⟨n,b,by rw [e,zJ e0,zJ e1,asBoo_of e2,e3],h⟩
noncomputable def spWrit:xM:=fun args σ Q=>consA args fun z0 r=>consA r fun z1 r=>qF r fun z2 z3 z4=>zB (zL z0) fun l=>zB (yS z1) fun f=>chk f.isEmpty<|zB (zL z2) fun d=>chk (isNone z3)<|zB (zL z4) fun v =>
 (l=100/\d=0/\0<=v/\v < 1000000000)/\Q (.bytes (zF v.toNat)) σ
theorem spWrit_of{args:List V}{σ:List O}{Q:V->List O->Prop}(hh:spWrit args σ Q):∃ l d v,args=[.int l,.bytes [],.int d,.none,.int v]/\((l=100/\d=0/\0<=v/\v < 1000000000)/\Q (.bytes (zF v.toNat)) σ):=by
 apply gk;intro J;obtain ⟨z0,r,ea,h⟩:=consA_of hh;obtain ⟨z1,r,eb,h⟩:=consA_of h;obtain ⟨z2,z3,z4,ec,h⟩:=xT h;obtain ⟨l,e0,h⟩:=zA h;obtain ⟨f,e1,h⟩:=zA h;obtain ⟨e2,h⟩:=jM h;obtain ⟨d,e3,h⟩:=zA h;obtain ⟨e4,h⟩:=jM h;obtain ⟨v,e5,h⟩:=zA h;apply J;clear J;exact ⟨l,d,v,by rw [ea,eb,ec,zJ e0,zZ e1,List.isEmpty_iff.mp e2,zJ e3,xA e4,zJ e5],h⟩
noncomputable def yI:Nat->List UInt8
 | 1=>[37,112,49,37,99,27,91,37,112,50,37,123,49,125,37,45,37,100,98]
 | 2=>[27,91,37,112,50,37,100,59,37,112,49,37,100,114]
 | 3=>[27,37,112,49,37,99,37,112,50,37,100,33,36,60,53,62]
 | _=>[82,37,112,49,37,99,37,112,50,37,100,46]
noncomputable def pRow(n:Int):V:=.tup [.str "param",.int n]
noncomputable def wRow:V:=.tup [.str "write",.int 100,.bytes [],.int 0,.none]
noncomputable def tRow(b:List UInt8):V:=.tup [.str "text",.bytes b]
noncomputable def qM:Nat->List V
 | 1=>[pRow 1,.tup [.str "char"],tRow [27,91],pRow 2,.tup [.str "push",.int 1],.tup [.str "two",.int 45],wRow,tRow [98]]
 | 2=>[tRow [27,91],pRow 2,wRow,tRow [59],pRow 1,wRow,tRow [114]]
 | 3=>[tRow [27],pRow 1,.tup [.str "char"],pRow 2,wRow,tRow [33,36,60,53,62]]
 | _=>[tRow [82],pRow 1,.tup [.str "char"],pRow 2,wRow,tRow [46]]
noncomputable def spProg:xM:=fun args σ Q=>jY args fun z0=>zB (yS z0) fun b =>
  match decide (b=yI 1) with
  | true=>Q (.lst (qM 1)) σ
  | false=>match decide (b=yI 2) with
   | true=>Q (.lst (qM 2)) σ
   | false=>match decide (b=yI 3) with
    | true=>Q (.lst (qM 3)) σ
    | false=>b=yI 4/\Q (.lst (qM 4)) σ
theorem spProg_of{args:List V}{σ:List O}{Q:V->List O->Prop}(hh:spProg args σ Q):∃ b,args=[.bytes b] /\
  (match decide (b=yI 1) with
  | true=>Q (.lst (qM 1)) σ
  | false=>match decide (b=yI 2) with
   | true=>Q (.lst (qM 2)) σ
   | false=>match decide (b=yI 3) with
    | true=>Q (.lst (qM 3)) σ
    | false=>b=yI 4/\Q (.lst (qM 4)) σ):=by
 apply gk;intro J;obtain ⟨z0,rfl,h⟩:=yC hh;obtain ⟨b,e0,h⟩:=zA h;apply J;clear J;exact ⟨b,by rw [zZ e0],h⟩
noncomputable def full(j:Nat)(c:UInt8)(many:Nat):List UInt8:=match j with
 | 1=>[c,27,91]++zF (many - 1)++[98]
 | 2=>[27,91]++zF many++[59]++zF c.toNat++[114]
 | 3=>[27,c]++zF many++[33,36,60,53,62]
 | _=>[82,c]++zF many++[46]
noncomputable def spExp:xM:=fun args σ Q=>twoA args fun z0 z1=>zB (yS z0) fun b=>zB (qE z1) fun l2=>twoA l2 fun z3 z4=>zB (zL z3) fun c=>zB (zL z4) fun m =>
  ∃ j:Nat,(1<=j/\j<=4/\b=yI j/\33<=c/\c<=126/\2<=m/\m<=1000)/\Q (.bytes (full j (UInt8.ofNat c.toNat) m.toNat)) σ
theorem spExp_of{args:List V}{σ:List O}{Q:V->List O->Prop}(hh:spExp args σ Q):∃ b c m,args=[.bytes b,.lst [.int c,.int m]] /\
  (∃ j:Nat,(1<=j/\j<=4/\b=yI j/\33<=c/\c<=126/\2<=m/\m<=1000)/\Q (.bytes (full j (UInt8.ofNat c.toNat) m.toNat)) σ):=by
 apply gk;intro J;obtain ⟨z0,z1,rfl,h⟩:=xI hh;obtain ⟨b,e0,h⟩:=zA h;obtain ⟨l2,e1,h⟩:=zA h;obtain ⟨z3,z4,e2,h⟩:=xI h;obtain ⟨c,e3,h⟩:=zA h;obtain ⟨m,e4,h⟩:=zA h;apply J;clear J;exact ⟨b,c,m,by rw [zZ e0,jA e1,e2,zJ e3,zJ e4],h⟩
end Mine
end
section
set_option tactic.hygienic false
set_option maxRecDepth 1000000
namespace Mine
noncomputable abbrev T68:Tabs:=jH { specs:=[(61,spDig)] }
noncomputable abbrev T335:Tabs:=jH { specs:=[(61,spDig),(68,spNum)] }
noncomputable abbrev T342:Tabs:=jH { specs:=[(335,spDelay)] }
noncomputable abbrev T349:Tabs:=jH { specs:=[(342,spDelays)] }
noncomputable abbrev T180:Tabs:=jH { specs:=[(166,spFig)] }
theorem r61(b:List UInt8)(i:Int)(P:V->List O->Prop):wpF (jH {}) 50 61 [.bytes b,.int i] [] P=(chk (decide (b.length<=big)) (ifB (decide (i < (↑b.length:Int))) (chk (decide ((0:Int)<=i/\b.length<=1000000000)) (@zB UInt8 b[i.toNat]? fun val=>chk (decide ((0:Int)<=(↑val.toNat:Int)/\(↑val.toNat:Int) < (256:Int))) (P (V.bool ([(48:UInt8),(49:UInt8),(50:UInt8),(51:UInt8),(52:UInt8),(53:UInt8),(54:UInt8),(55:UInt8),(56:UInt8),(57:UInt8)].any fun c=>decide ((↑c.toNat:Int)=(↑val.toNat:Int)))) []))) (P (V.bool (decide (i < (↑b.length:Int)))) []))):=by kernel_rfl
theorem r68a(b:List UInt8)(i:Int)(P:Fl->Loc->List O->Prop):zI T68 49 (zG 68 0) ((zE 68).take 1) [("octets",.bytes b),("at",.int i)] [] P=(P Fl.next [("octets",V.bytes b),("at",V.int i),("found",V.int 0)] []):=by kernel_rfl
theorem r68t(b:List UInt8)(i f:Int)(P:Bool->List O->Prop):wpT T68 46 (zG 68 0) (whT (nth 1 (zE 68))) [("octets",.bytes b),("at",.int i),("found",.int f)] [] P=((0<=i/\b.length<=16777216)/\P (jK b i.toNat) []):=by kernel_rfl
theorem r68b(b:List UInt8)(i f:Int)(P:Fl->Loc->List O->Prop):zI T68 46 (zG 68 0) (whB (nth 1 (zE 68))) [("octets",.bytes b),("at",.int i),("found",.int f)] [] P=(chk (decide ((-18446744073709551616:Int) < f/\f < (18446744073709551616:Int)\/(-18446744073709551616:Int) < (10:Int)/\(10:Int) < (18446744073709551616:Int))) (chk (decide ((0:Int)<=i/\b.length<=1000000000)) (@zB UInt8 b[i.toNat]? fun val=>P Fl.next [("octets",V.bytes b),("at",V.int (i+(1:Int))),("found",V.int (f*(10:Int)+(↑val.toNat:Int) - (48:Int)))] []))):=by kernel_rfl
theorem r68c(b:List UInt8)(i f:Int)(P:Fl->Loc->List O->Prop):zI T68 47 (zG 68 0) ((zE 68).drop 2) [("octets",.bytes b),("at",.int i),("found",.int f)] [] P=(P (Fl.ret (V.tup [V.int f,V.int i])) [("octets",V.bytes b),("at",V.int i),("found",V.int f)] []):=by kernel_rfl
theorem r335a(b:List UInt8)(i:Int)(P:Fl->Loc->List O->Prop):zI T335 59 (zG 335 0) ((zE 335).take 6) [("octets",.bytes b),("at",.int i)] [] P=(chk (decide (b.length<=big)) (ifB (!decide (cut b (some i) (some (i+(2:Int)))=[(36:UInt8),(60:UInt8)])) (P (Fl.ret V.none) [("octets",V.bytes b),("at",V.int i)] []) (((0:Int)<=i+(2:Int)/\b.length<=16777216)/\ifB (!jK b (i+(2:Int)).toNat) (P (Fl.ret V.none) [("octets",V.bytes b),("at",V.int i)] []) (((0:Int)<=i+(2:Int)/\b.length<=16777216/\jK b (i+(2:Int)).toNat=true/\jK b ((i+(2:Int)).toNat+1)=false)/\@zB UInt8 b[(i+(2:Int)).toNat]? fun val=>chk (decide ((-18446744073709551616:Int) < (↑val.toNat:Int) - (48:Int)/\(↑val.toNat:Int) - (48:Int) < (18446744073709551616:Int)\/(-18446744073709551616:Int) < (10:Int)/\(10:Int) < (18446744073709551616:Int))) (chk (decide (b.length<=big)) (ifB (decide (cut b (some (i+(2:Int)+(1:Int))) (some (i+(2:Int)+(1:Int)+(1:Int)))=[(46:UInt8)])) (((0:Int)<=i+(2:Int)+(1:Int)+(1:Int)/\b.length<=16777216)/\ifB (jK b (i+(2:Int)+(1:Int)+(1:Int)).toNat) (chk (decide ((0:Int)<=i+(2:Int)+(1:Int)+(1:Int)/\b.length<=1000000000)) (@zB UInt8 b[(i+(2:Int)+(1:Int)+(1:Int)).toNat]? fun val_1=>P Fl.next [("octets",V.bytes b),("at",V.int i),("number",V.int ((↑val.toNat:Int) - (48:Int))),("place",V.int (i+(2:Int)+(1:Int)+(2:Int))),("tenths",V.int (((↑val.toNat:Int) - (48:Int))*(10:Int)+(↑val_1.toNat:Int) - (48:Int))),("is_each",V.bool false),("is_kept",V.bool false)] [])) (P Fl.next [("octets",V.bytes b),("at",V.int i),("number",V.int ((↑val.toNat:Int) - (48:Int))),("place",V.int (i+(2:Int)+(1:Int))),("tenths",V.int (((↑val.toNat:Int) - (48:Int))*(10:Int))),("is_each",V.bool false),("is_kept",V.bool false)] [])) (P Fl.next [("octets",V.bytes b),("at",V.int i),("number",V.int ((↑val.toNat:Int) - (48:Int))),("place",V.int (i+(2:Int)+(1:Int))),("tenths",V.int (((↑val.toNat:Int) - (48:Int))*(10:Int))),("is_each",V.bool false),("is_kept",V.bool false)] []))))))):=by kernel_rfl
theorem r335t(b:List UInt8)(i n p t:Int)(P:Bool->List O->Prop):wpT T335 51 (zG 335 0) (whT (nth 6 (zE 335))) [("octets",.bytes b),("at",.int i),("number",.int n),("place",.int p),("tenths",.int t),("is_each",.bool false),("is_kept",.bool false)] [] P=(chk (decide (b.length<=big)) (P ([[42],[47]].any fun y=>decide (y=cut b (some p) (some (p+1)))) [])):=by kernel_rfl
theorem r335c(b:List UInt8)(i n p t:Int)(P:Fl->Loc->List O->Prop):zI T335 52 (zG 335 0) ((zE 335).drop 7) [("octets",.bytes b),("at",.int i),("number",.int n),("place",.int p),("tenths",.int t),("is_each",.bool false),("is_kept",.bool false)] [] P=(chk (decide (b.length<=big)) (ifB (!decide (cut b (some p) (some (p+1))=[62])) (P (Fl.ret V.none) [("octets",V.bytes b),("at",V.int i),("number",V.int n),("place",V.int p),("tenths",V.int t),("is_each",V.bool false),("is_kept",V.bool false)] []) (P (Fl.ret (V.tup [V.int t,V.bool false,V.bool false,V.int (p+1)])) [("octets",V.bytes b),("at",V.int i),("number",V.int n),("place",V.int p),("tenths",V.int t),("is_each",V.bool false),("is_kept",V.bool false)] []))):=by kernel_rfl
theorem r342a(b:List UInt8)(P:Fl->Loc->List O->Prop):zI T342 59 (zG 342 0) ((zE 342).take 3) [("octets",.bytes b)] [] P=(P Fl.next [("octets",V.bytes b),("found",V.loc 0),("delays",V.loc 1),("at",V.int 0)] [O.barr [],O.list []]):=by kernel_rfl
theorem r342t(b f:List UInt8)(ds:List V)(i:Int)(m:Loc)(P:Bool->List O->Prop):wpT T342 54 (zG 342 0) (whT (nth 3 (zE 342))) (("octets",.bytes b)::("found",.loc 0)::("delays",.loc 1)::("at",.int i)::m) [.barr f,.list ds] P=(chk (decide (b.length<=big)) (P (decide (i < (↑b.length:Int))) [O.barr f,O.list ds])):=by kernel_rfl
theorem r342b(b f:List UInt8)(ds:List V)(i:Int)(v:V)(P:Fl->Loc->List O->Prop):zI T342 54 (zG 342 0) (whB (nth 3 (zE 342))) [("octets",.bytes b),("found",.loc 0),("delays",.loc 1),("at",.int i),("delay",v)] [.barr f,.list ds] P=((0<=i/\b.length<=100000)/\ifB (decide (cut b (some i) (some (i+2))=[36,60])) (List.drop i.toNat b=[36,60,53,62]/\chk (decide (f.length<=big)) (chk (decide (ds.length < 1000000)) (P Fl.next [("octets",V.bytes b),("found",V.loc 0),("delays",V.loc 1),("at",V.int (i+4)),("delay",V.tup [V.int 50,V.bool false,V.bool false,V.int (i+4)])] [O.barr f,O.list (ds++[V.tup [V.int (↑f.length:Int),V.int 50,V.bool false,V.bool false]])]))) (chk (decide (0<=i/\b.length<=1000000000)) (@zB UInt8 b[i.toNat]? fun val=>chk (decide (0<=(↑val.toNat:Int)/\(↑val.toNat:Int) < 256/\f.length < 1000000)) (P Fl.next [("octets",V.bytes b),("found",V.loc 0),("delays",V.loc 1),("at",V.int (i+1)),("delay",V.none)] [O.barr (f++[UInt8.ofNat (↑val.toNat:Int).toNat]),O.list ds])))):=by kernel_rfl
theorem r342b0(b f:List UInt8)(ds:List V)(i:Int)(P:Fl->Loc->List O->Prop):zI T342 54 (zG 342 0) (whB (nth 3 (zE 342))) [("octets",.bytes b),("found",.loc 0),("delays",.loc 1),("at",.int i)] [.barr f,.list ds] P=((0<=i/\b.length<=100000)/\ifB (decide (cut b (some i) (some (i+2))=[36,60])) (List.drop i.toNat b=[36,60,53,62]/\chk (decide (f.length<=big)) (chk (decide (ds.length < 1000000)) (P Fl.next [("octets",V.bytes b),("found",V.loc 0),("delays",V.loc 1),("at",V.int (i+4)),("delay",V.tup [V.int 50,V.bool false,V.bool false,V.int (i+4)])] [O.barr f,O.list (ds++[V.tup [V.int (↑f.length:Int),V.int 50,V.bool false,V.bool false]])]))) (chk (decide (0<=i/\b.length<=1000000000)) (@zB UInt8 b[i.toNat]? fun val=>chk (decide (0<=(↑val.toNat:Int)/\(↑val.toNat:Int) < 256/\f.length < 1000000)) (P Fl.next [("octets",V.bytes b),("found",V.loc 0),("delays",V.loc 1),("at",V.int (i+1)),("delay",V.none)] [O.barr (f++[UInt8.ofNat (↑val.toNat:Int).toNat]),O.list ds])))):=by kernel_rfl
theorem r342c(b f:List UInt8)(ds:List V)(i:Int)(m:Loc)(P:Fl->Loc->List O->Prop):zI T342 55 (zG 342 0) ((zE 342).drop 4) (("octets",.bytes b)::("found",.loc 0)::("delays",.loc 1)::("at",.int i)::m) [.barr f,.list ds] P=(chk (decide (f.length<=big)) (P (Fl.ret (V.tup [V.bytes f,V.loc 1])) (("octets",V.bytes b)::("found",V.loc 0)::("delays",V.loc 1)::("at",V.int i)::m) [O.barr f,O.list ds])):=by kernel_rfl
theorem r349(b:List UInt8)(P:V->List O->Prop):wpF T349 60 349 [.bytes b] [] P=((b.length<=100000/\noDel b)/\∀ (ds:List V),yR 0 ds->P (V.bytes (yQ b)) []):=by kernel_rfl
theorem r166a(n:Int)(P:Fl->Loc->List O->Prop):zI (jH {}) 59 (zG 166 0) ((zE 166).take 3) [("number",.int n),("base",.int 10),("is_great",.bool false)] [] P=(P Fl.next [("number",V.int n),("base",V.int 10),("is_great",V.bool false),("signs",V.bytes [48,49,50,51,52,53,54,55,56,57,97,98,99,100,101,102]),("found",V.loc 0),("left",V.int n)] [O.barr []]):=by kernel_rfl
theorem r166t(n l:Int)(f:List UInt8)(P:Bool->List O->Prop):wpT (jH {}) 54 (zG 166 0) (whT (nth 3 (zE 166))) [("number",.int n),("base",.int 10),("is_great",.bool false),("signs",.bytes [48,49,50,51,52,53,54,55,56,57,97,98,99,100,101,102]),("found",.loc 0),("left",.int l)] [.barr f] P=(ifB (decide (l > 0)) (P true [O.barr f]) (chk (decide (f.length<=big)) (ifB (decide ((↑f.length:Int)=0)) (P true [O.barr f]) (P (BoolOp.Or==BoolOp.And) [O.barr f])))):=by kernel_rfl
theorem r166b(n l:Int)(f:List UInt8)(P:Fl->Loc->List O->Prop):zI (jH {}) 54 (zG 166 0) (whB (nth 3 (zE 166))) [("number",.int n),("base",.int 10),("is_great",.bool false),("signs",.bytes [48,49,50,51,52,53,54,55,56,57,97,98,99,100,101,102]),("found",.loc 0),("left",.int l)] [.barr f] P=(chk (decide (0<=l%10/\16<=1000000000)) (@zB UInt8 [48,49,50,51,52,53,54,55,56,57,97,98,99,100,101,102][(l%10).toNat]? fun val=>chk (decide (0<=(↑val.toNat:Int)/\(↑val.toNat:Int) < 256/\f.length < 1000000)) (P Fl.next [("number",V.int n),("base",V.int 10),("is_great",V.bool false),("signs",V.bytes [48,49,50,51,52,53,54,55,56,57,97,98,99,100,101,102]),("found",V.loc 0),("left",V.int (l / 10))] [O.barr (f++[UInt8.ofNat (↑val.toNat:Int).toNat])]))):=by kernel_rfl
theorem r166c(n l:Int)(f:List UInt8)(P:Fl->Loc->List O->Prop):zI (jH {}) 55 (zG 166 0) ((zE 166).drop 4) [("number",.int n),("base",.int 10),("is_great",.bool false),("signs",.bytes [48,49,50,51,52,53,54,55,56,57,97,98,99,100,101,102]),("found",.loc 0),("left",.int l)] [.barr f] P=(chk (decide (f.length<=big)) (chk (decide (f.reverse.length<=big)) (P (Fl.ret (V.bytes f.reverse)) [("number",V.int n),("base",V.int 10),("is_great",V.bool false),("signs",V.bytes [48,49,50,51,52,53,54,55,56,57,97,98,99,100,101,102]),("found",V.loc 0),("left",V.int l)] [O.barr f]))):=by kernel_rfl
theorem r180(v:Int)(P:V->List O->Prop):wpF T180 80 180 [.int 100,.bytes [],.int 0,.none,.int v] [] P=(((10:Int)=(10:Int)/\(0:Int)<=(↑v.natAbs:Int)/\(↑v.natAbs:Int) < (1000000000:Int))/\ifB (decide (v < (0:Int))) (chk (decide ((zF (↑v.natAbs:Int).toNat).length<=big)) (ifB (decide ((0:Int) - (↑1:Int) - (↑(zF (↑v.natAbs:Int).toNat).length:Int)<=(0:Int))) (chk (decide (1+(zF (↑v.natAbs:Int).toNat).length<=big)) (P (V.bytes ([(45:UInt8)]++zF (↑v.natAbs:Int).toNat)) [])) (chk (decide (1≠0/\1<=16/\(0:Int)<=(0:Int) - (↑1:Int) - (↑(zF (↑v.natAbs:Int).toNat).length:Int)/\(0:Int) - (↑1:Int) - (↑(zF (↑v.natAbs:Int).toNat).length:Int)<=(1000000:Int))) (chk (decide ((List.replicate ((0:Int) - (↑1:Int) - (↑(zF (↑v.natAbs:Int).toNat).length:Int)).toNat [(32:UInt8)]).flatten.length+1<=big)) (chk (decide (((List.replicate ((0:Int) - (↑1:Int) - (↑(zF (↑v.natAbs:Int).toNat).length:Int)).toNat [(32:UInt8)]).flatten++[(45:UInt8)]).length+(zF (↑v.natAbs:Int).toNat).length<=big)) (P (V.bytes ((List.replicate ((0:Int) - (↑1:Int) - (↑(zF (↑v.natAbs:Int).toNat).length:Int)).toNat [(32:UInt8)]).flatten++[(45:UInt8)]++zF (↑v.natAbs:Int).toNat)) [])))))) (chk (decide ((zF (↑v.natAbs:Int).toNat).length<=big)) (ifB (decide ((0:Int) - (↑0:Int) - (↑(zF (↑v.natAbs:Int).toNat).length:Int)<=(0:Int))) (chk (decide (0+(zF (↑v.natAbs:Int).toNat).length<=big)) (P (V.bytes ([]++zF (↑v.natAbs:Int).toNat)) [])) (chk (decide (1≠0/\1<=16/\(0:Int)<=(0:Int) - (↑0:Int) - (↑(zF (↑v.natAbs:Int).toNat).length:Int)/\(0:Int) - (↑0:Int) - (↑(zF (↑v.natAbs:Int).toNat).length:Int)<=(1000000:Int))) (chk (decide ((List.replicate ((0:Int) - (↑0:Int) - (↑(zF (↑v.natAbs:Int).toNat).length:Int)).toNat [(32:UInt8)]).flatten.length+0<=big)) (chk (decide (((List.replicate ((0:Int) - (↑0:Int) - (↑(zF (↑v.natAbs:Int).toNat).length:Int)).toNat [(32:UInt8)]).flatten++[]).length+(zF (↑v.natAbs:Int).toNat).length<=big)) (P (V.bytes ((List.replicate ((0:Int) - (↑0:Int) - (↑(zF (↑v.natAbs:Int).toNat).length:Int)).toNat [(32:UInt8)]).flatten++[]++zF (↑v.natAbs:Int).toNat)) []))))))):=by kernel_rfl
end Mine
end
section
set_option tactic.hygienic false
namespace Mine
theorem any_dig(c:UInt8):([48,49,50,51,52,53,54,55,56,57].any fun d:UInt8=>decide (((d.toNat:Nat):Int)=((c.toNat:Nat):Int)))=decide (48<=c.toNat/\c.toNat<=57):=by
 have key:∀ n,n < 256->([48,49,50,51,52,53,54,55,56,57]:List Nat).any (fun k=>decide (k=n))=decide (48<=n/\n<=57):=by decide +kernel
 refine rwp (key c.toNat c.toNat_lt).symm ?_;have e:∀ k:UInt8,decide (((k.toNat:Nat):Int)=((c.toNat:Nat):Int))=decide (k.toNat=c.toNat):=fun k=>decide_eq_decide.mpr Int.ofNat_inj;simp only [List.any_cons,List.any_nil,e];rfl
theorem cut_at_end{b:List UInt8}{i:Int}{s:List UInt8}(h0:0<=i)(hd:b.drop i.toNat=s)(k l:Nat)(hl:l<=s.length)(hk:k<=l):cut b (some (i+(k:Int))) (some (i+(l:Int)))=(s.take l).drop k:=by
 have hlen:b.length - i.toNat=s.length:=by rw [<- hd,List.length_drop]
 unfold cut vB;simp only;rw [if_neg (by lia),if_neg (by lia)];have hb:i.toNat<=b.length\/s.length=0:=by grind only
 have e1:min (i+(l:Int)).toNat b.length=min (i.toNat+l) b.length:=by congr 1;lia
 have e2:min (i+(k:Int)).toNat b.length=min (i.toNat+k) b.length:=by congr 1;lia
 rw [e1,e2];by_cases hs:s.length=0
 ·have hl0:l=0:=by simp_all
  have hk0:k=0:=by simp_all
  subst hl0 hk0;rw [List.length_eq_zero_iff.mp hs];simp
 ·rw [Nat.min_eq_left (by lia),Nat.min_eq_left (by lia),<- hd,List.take_drop,List.drop_drop]
theorem cloL_app{k:Nat}:∀ {xs ys:List V},yR k xs->yR k ys->yR k (xs++ys)
 | [],_,_,h=>h
 | _::_,_,⟨a,b⟩,h=>⟨a,cloL_app b h⟩
section
variable{prog:Program}{w:World}{K:Frag}{mb:Str->Option Value}{R R':Nat}
noncomputable def vE(prog:Program)(w:World)(K:Frag)(mb:Str->Option Value):Prop:=∀ (R:Nat) (p:Par),(∀ a sp,p.specs.lookup a=some sp->SpecOk prog w K mb R a sp)->TabsOk prog w K mb R (jH p)
theorem SpecOk.mono{f:Addr}{sp:xM}(h:SpecOk prog w K mb R f sp)(hR:R<=R'):SpecOk prog w K mb R' f sp :=
 fun A own L ρ m σ s args vargs Q hA=>h A own L ρ m σ s args vargs Q (hA.less hR)
theorem yK:∀ a sp,([]:List (Addr×xM)).lookup a=some sp->SpecOk prog w K mb R a sp:=fun _ _ h=>by cases h
theorem zS{l:List (Addr×xM)}{f:Addr}{s:xM}(h:SpecOk prog w K mb R' f s)(hR:R'<=R)(hl:∀ a sp,l.lookup a=some sp->SpecOk prog w K mb R a sp):∀ a sp,((f,s)::l).lookup a=some sp->SpecOk prog w K mb R a sp:=fun a sp e=>by
 rw [List.lookup_cons] at e;cases hb:a==f with
 | true=>rw [hb] at e;cases e;refine rwp (eq_of_beq hb) ?_;exact h.mono hR
 | false=>rw [hb] at e;exact hl a sp e
variable(B:vE prog w K mb)
include B
theorem ok61:SpecOk prog w K mb 30 61 spDig :=
 jE (R':=0) fun args σ Q h=>by
  replace h:=spDig_of h;apply gk;intro J;obtain ⟨b,i,rfl,h⟩:=h;apply J;clear J
  ·apply gk;intro J;obtain ⟨⟨h0,h1⟩,q⟩:=h;apply J;clear J;refine ⟨⟨trivial,trivial,trivial⟩,jH {},50,B _ _ yK,by exact Nat.le_add_left _ _,?_⟩;rw [r61];refine zC h1 (zX (fun hc=>?_) (fun hc=>?_))
   ·refine zC ⟨h0,by lia⟩ ?_;have hl:i.toNat < b.length:=by simp_all
    refine zD (List.getElem?_eq_getElem hl) (zC ⟨by simp_all,by have:=b[i.toNat].toNat_lt;lia⟩ ⟨_,⟨trivial,rfl⟩,?_⟩);rw [show jK b i.toNat=_ by unfold jK;rw [List.getElem?_eq_getElem hl]] at q;rw [any_dig];exact q
   ·refine ⟨_,⟨trivial,rfl⟩,?_⟩;rw [show jK b i.toNat=false by unfold jK;rw [List.getElem?_eq_none (by simp_all)]] at q;rw [decide_eq_false hc];exact q
theorem ok68:SpecOk prog w K mb 60 68 spNum :=
 jE (R':=30) fun args σ Q h=>by
  replace h:=spNum_of h;apply gk;intro J;obtain ⟨b,i,rfl,h⟩:=h;apply J;clear J
  ·apply gk;intro J;obtain ⟨⟨h0,h1,h2,h3⟩,h⟩:=h;obtain ⟨c,hc,q⟩:=zA h;apply J;clear J;refine ⟨⟨trivial,trivial,trivial⟩,T68,50,B _ _ (zS (ok61 B) (by exact Nat.le_refl _) yK),by simp_all,?_⟩;refine fn_in 49 0 rfl rfl (m:=[("octets",.bytes b),("at",.int i)]) (σ1:=[]) (by kernel_rfl) (by kernel_rfl) (by kernel_rfl) ?_;refine jC 1 2 49 47 rfl rfl (by decide) (by decide +kernel) ?_;rw [r68a];refine zR ?_;refine jI 46 rfl (by kernel_rfl) (by kernel_rfl) (fun k m σ=>σ=[]/\((k=1/\m=([("octets",.bytes b),("at",.int i),("found",.int 0)]:Loc))\/(k=0/\m=([("octets",.bytes b),("at",.int (i+1)),("found",.int ((c.toNat:Int) - 48))]:Loc)))) 1 ⟨rfl,.inl ⟨rfl,rfl⟩⟩ ?_;rintro k m σ' ⟨rfl,⟨rfl,rfl⟩ | ⟨rfl,rfl⟩⟩
   ·rw [r68t];refine ⟨⟨h0,h1⟩,qB h2 ?_⟩;rw [r68b];have hl:=(List.getElem?_eq_some_iff.mp hc).1;refine zC (.inr ⟨by decide,by decide⟩) (zC ⟨h0,by lia⟩ (zD hc ⟨0,by exact Nat.lt_succ_self _,rfl,.inr ⟨rfl,?_⟩⟩));rw [show (0:Int)*10+(c.toNat:Int) - 48=(c.toNat:Int) - 48 by simp_all]
   ·rw [r68t];refine ⟨⟨by lia,h1⟩,xC (by rw [show (i+1).toNat=i.toNat+1 by lia];exact h3) ?_⟩;refine zR ?_;rw [r68c];exact ⟨_,⟨_,rfl,_,_,rfl,⟨trivial,rfl⟩,_,_,rfl,⟨trivial,rfl⟩,rfl⟩,q⟩
theorem ok335:SpecOk prog w K mb 95 335 spDelay :=
 jE (R':=60) fun args σ Q h=>by
  replace h:=spDelay_of h;obtain ⟨b,i,rfl,h⟩:=h
  ·obtain ⟨⟨h0,h1⟩,h⟩:=h;refine ⟨⟨trivial,trivial,trivial⟩,T335,60,B _ _ (zS (ok61 B) (by exact Nat.le_add_left _ _) (zS (ok68 B) (by exact Nat.le_refl _) yK)),by simp_all,?_⟩;refine fn_in 59 0 rfl rfl (m:=[("octets",.bytes b),("at",.int i)]) (σ1:=[]) (by kernel_rfl) (by kernel_rfl) (by kernel_rfl) ?_;refine jC 6 7 59 52 rfl rfl (by decide) (by decide +kernel) ?_;rw [r335a];refine zC (by have:big=16777216:=rfl;lia) ?_;by_cases hc:cut b (some i) (some (i+2))=[36,60]
   ·rw [decide_eq_true hc] at h ⊢;obtain ⟨hd,q⟩:=h;refine xC rfl ?_;have hz:i.toNat+4=b.length:=by
     have:=congrArg List.length hd;rw [List.length_drop] at this;simp at this;lia
    have at':∀ k:Nat,b[i.toNat+k]?=[36,60,53,62][k]?:=fun k=>by rw [<- hd,List.getElem?_drop]
    have d2:jK b (i+2).toNat=true:=by
     unfold jK;rw [show (i+2).toNat=i.toNat+2 by lia,at' 2];rfl
    have d3:jK b ((i+2).toNat+1)=false:=by
     unfold jK;rw [show (i+2).toNat+1=i.toNat+3 by lia,at' 3];rfl
    refine ⟨⟨by lia,by lia⟩,xC (by rw [d2];rfl) ⟨⟨by lia,by lia,d2,d3⟩,?_⟩⟩;refine zD (a:=53) (by rw [show (i+2).toNat=i.toNat+2 by lia,at' 2];rfl) ?_;refine zC (.inr ⟨by decide,by decide⟩) (zC (by have:big=16777216:=rfl;lia) (xC (decide_eq_false ?_) ?_))
    ·have:=cut_at_end h0 hd 3 4 (by decide) (by decide);rw [show i+2+1=i+((3:Nat):Int) by simp +arith [*],show i+((3:Nat):Int)+1=i+((4:Nat):Int) by simp +arith [*],this];decide
    ·refine zR ?_;have c3:cut b (some (i+2+1)) (some (i+2+1+1))=[62]:=by
      have:=cut_at_end h0 hd 3 4 (by decide) (by decide);rw [show i+2+1=i+((3:Nat):Int) by simp +arith [*],show i+((3:Nat):Int)+1=i+((4:Nat):Int) by simp +arith [*],this];rfl
     refine jI 51 rfl (by kernel_rfl) (by kernel_rfl) (fun k m σ=>k=0/\σ=[]/\m=([("octets",.bytes b),("at",.int i),("number",.int (((53:UInt8).toNat:Int) - 48)),("place",.int (i+2+1)),("tenths",.int ((((53:UInt8).toNat:Int) - 48)*10)),("is_each",.bool false),("is_kept",.bool false)]:Loc)) 0 ⟨rfl,rfl,rfl⟩ ?_;intro k m σ' zq;apply gk;intro J;obtain ⟨rfl,rfl,rfl⟩:=zq;apply J;clear J;rw [r335t];refine zC (by have:big=16777216:=rfl;lia) (xC (by rw [c3];decide) ?_);refine zR ?_;rw [r335c];refine zC (by have:big=16777216:=rfl;lia) (xC (by rw [c3];decide) ?_);refine pure_end ⟨trivial,trivial,trivial,trivial,trivial⟩ ?_;rw [show (((53:UInt8).toNat:Int) - 48)*10=50 from rfl,show i+2+1+1=i+4 by simp +arith [*]];exact q
   ·rw [decide_eq_false hc] at h ⊢;refine qB rfl ⟨_,⟨trivial,rfl⟩,h⟩
theorem ok342:SpecOk prog w K mb 130 342 spDelays :=
 jE (R':=95) fun args σ Q h=>by
  replace h:=spDelays_of h;obtain ⟨b,rfl,h⟩:=h
  ·obtain ⟨⟨h1,hn⟩,q⟩:=h;refine ⟨⟨trivial,trivial⟩,T342,60,B _ _ (zS (ok335 B) (by exact Nat.le_refl _) yK),by simp_all,?_⟩;refine fn_in 59 0 rfl rfl (m:=[("octets",.bytes b)]) (σ1:=[]) (by kernel_rfl) (by kernel_rfl) (by kernel_rfl) ?_;refine jC 3 4 59 55 rfl rfl (by decide) (by decide +kernel) ?_;rw [r342a];refine zR ?_;have hb:big=16777216:=rfl;have hpl:(yQ b).length<=b.length:=by
    unfold yQ;split
    ·rw [List.length_take];simp_all
    ·exact Nat.le_refl _
   have hsuf:b.drop (yQ b).length=[]\/b.drop (yQ b).length=[36,60,53,62]:=by
    unfold yQ;cases hd:hasDel b with
    | true =>
     have:=of_decide_eq_true hd
     right
     rw [List.length_take,Nat.min_eq_left (by exact Nat.sub_le _ _)];exact this.2
    | false=>left;exact List.drop_length
   have hpre:yQ b=b.take (yQ b).length:=by
    unfold yQ;split
    ·rw [List.length_take,Nat.min_eq_left (by exact Nat.sub_le _ _)]
    ·rw [List.take_length]
   refine jI 54 rfl (by kernel_rfl) (by kernel_rfl) (fun k m σ=>∃ (i:Nat) (ds:List V) (x:Loc),k=b.length - i/\yR 0 ds/\ds.length<=i/\i<=b.length/\(i<=(yQ b).length\/i=b.length)/\(x=[]\/∃ v:V,x=([("delay",v)]:Loc)) /\
     m=(("octets",.bytes b)::("found",.loc 0)::("delays",.loc 1)::("at",.int i)::x:Loc)/\σ=[.barr ((yQ b).take i),.list ds]) b.length ⟨0,[],[],rfl,trivial,Nat.le_refl _,Nat.zero_le _,.inl (Nat.zero_le _),.inl rfl,rfl,rfl⟩ ?_
   intro k m σ' zq;apply gk;intro J;obtain ⟨i,ds,x,rfl,hds,hdl,hi,hi2,hx,rfl,rfl⟩:=zq;apply J;clear J;rw [r342t];refine zC (by lia) (zX (fun hc=>?_) (fun hc=>?_))
   ·have hip:i<=(yQ b).length:=by
     rcases hi2 with h | h
     ·exact h
     ·lia
    have e:∀ x:Loc,(x=[]\/∃ v:V,x=([("delay",v)]:Loc))->∀ P,zI T342 54 (zG 342 0) (whB (nth 3 (zE 342))) (("octets",.bytes b)::("found",.loc 0)::("delays",.loc 1)::("at",.int (i:Nat))::x) [.barr ((yQ b).take i),.list ds] P=zI T342 54 (zG 342 0) (whB (nth 3 (zE 342))) [("octets",.bytes b),("found",.loc 0),("delays",.loc 1),("at",.int (i:Nat)),("delay",.none)] [.barr ((yQ b).take i),.list ds] P:=by
     intro x hx P;rcases hx with rfl | ⟨v,rfl⟩
     ·exact (r342b0 b _ ds i P).trans (r342b b _ ds i .none P).symm
     ·exact (r342b b _ ds i v P).trans (r342b b _ ds i .none P).symm
    rw [e x hx,r342b];refine ⟨⟨by simp [*],h1⟩,?_⟩;by_cases hlt:i < (yQ b).length
    ·have hnd:=hn i hlt;refine xC (decide_eq_false hnd) (zC ⟨by simp [*],by lia⟩ ?_);have hib:i < b.length:=by exact Nat.lt_of_lt_of_le (by assumption) (by assumption)
     refine zD (a:=b[i]) (by rw [Int.toNat_natCast];exact List.getElem?_eq_getElem hib) (zC ⟨by simp [*],by have:=b[i].toNat_lt;lia,by rw [List.length_take];lia⟩ ?_);refine ⟨b.length - (i+1),by lia,i+1,ds,[("delay",.none)],rfl,hds,by lia,by assumption,.inl (by assumption),.inr ⟨_,rfl⟩,?_,?_⟩
     ·rw [show ((i+1:Nat):Int)=(i:Int)+1 by simp [*]]
     ·congr 2
      rw [List.take_add_one,hpre,List.getElem?_take,if_pos hlt,List.getElem?_eq_getElem hib];congr 1
      congr 1
      simp
    ·have hie:i=(yQ b).length:=by exact Nat.le_antisymm (by assumption) (Nat.le_of_not_lt (by assumption))
     have hd:b.drop i=[36,60,53,62]:=by
      rcases hsuf with h | h
      ·rw [<- hie] at h;have:=congrArg List.length h;rw [List.length_drop] at this;simp at this;lia
      ·rw [hie];exact h
     have hz:i+4=b.length:=by
      have:=congrArg List.length hd;rw [List.length_drop] at this;simp at this;lia
     have c2:=cut_at_end (b:=b) (i:=(i:Int)) (s:=[36,60,53,62]) (by lia) (by rw [Int.toNat_natCast];exact hd) 0 2 (by decide) (by decide);refine qB (decide_eq_true ?_) ⟨by rw [Int.toNat_natCast];exact hd,zC (by rw [List.length_take];lia) (zC (by lia) ?_)⟩
     ·rw [show ((2:Nat):Int)=2 from rfl,show ((0:Nat):Int)=0 from rfl,Int.add_zero] at c2;rw [c2];rfl
     ·refine ⟨b.length - (i+4),by lia,i+4,ds++[.tup [.int (((yQ b).take i).length:Nat),.int 50,.bool false,.bool false]],[("delay",.tup [.int 50,.bool false,.bool false,.int ((i:Int)+4)])],rfl,
       cloL_app hds (show yR 0 [.tup [.int _,.int 50,.bool false,.bool false]] from ⟨⟨trivial,trivial,trivial,trivial,trivial⟩,trivial⟩),?_,by lia,.inr hz,.inr ⟨_,rfl⟩,?_,?_⟩
      ·rw [List.length_append];simp;lia
      ·rw [show ((i+4:Nat):Int)=(i:Int)+4 by lia]
      ·rw [List.take_of_length_le (by lia:(yQ b).length<=i+4),List.take_of_length_le (by lia:(yQ b).length<=i)]
   ·refine zR ?_;rw [r342c];refine zC (by rw [List.length_take];lia) ?_;have hie:i=b.length:=by lia
    rw [List.take_of_length_le (by lia)];refine ⟨.tup [.bytes (yQ b),.lst ds],⟨_,rfl,_,_,rfl,⟨trivial,rfl⟩,_,_,rfl,.inr ⟨Nat.zero_le _,ds,rfl,hds,rfl⟩,rfl⟩,?_⟩;rw [ren_clo _ _ (show Clo 0 (.tup [.bytes (yQ b),.lst ds]) from ⟨trivial,hds,trivial⟩)];exact q ds hds
theorem ok349:SpecOk prog w K mb 165 349 spNoDel :=
 jE (R':=130) fun args σ Q h=>by
  replace h:=spNoDel_of h;obtain ⟨b,rfl,h⟩:=h
  ·obtain ⟨h1,q⟩:=h;refine ⟨⟨trivial,trivial⟩,T349,60,B _ _ (zS (ok342 B) (by exact Nat.le_refl _) yK),by simp_all,?_⟩;rw [r349];exact ⟨h1,fun ds hds=>pure_end trivial q⟩
end
end Mine
end
section
set_option tactic.hygienic false
namespace Mine
section
variable{w:World}{K:Frag}(Z:FactsK K)
include Z
theorem plain_fns:∀ p∈fnTabP,FnOk K w p.1 p.2 :=
 app_ok (fun p h=>rows_ok Z.f0 row0 p.1 p.2 h) (app_ok (fun p h=>rows_ok Z.f1 row1 p.1 p.2 h) (app_ok (fun p h=>rows_ok Z.f2 row2 p.1 p.2 h) (app_ok (fun p h=>rows_ok Z.f3 row3 p.1 p.2 h)
  (app_ok (fun p h=>rows_ok Z.f4 row4 p.1 p.2 h) (fun p h=>rows_ok Z.f5 row5 p.1 p.2 h)))))
theorem fn_328:FnOk K w 328 (zQ "expand" [.none] (yN 26)):=fnOk_one (D:=.none) (ns:=["octets", "params"]) (x := "statics") Z.f6 (by kernel_rfl) rfl (by decide +kernel) rfl Z.f7 fun _ _ _ _ _=>rfl
theorem fn_379:FnOk K w 379 (zQ "Caps.has" [.tup []] (yD 33 2)):=fnOk_one (D:=.tup []) (ns:=["self", "word"]) (x := "params") Z.f8 (by kernel_rfl) rfl (by decide +kernel) rfl Z.f9 fun _ _ _ hK ho=>⟨371,#[],0,rfl,ho _ _ Z.f10,hK _ _ Z.f10,rfl⟩
theorem fn_388:FnOk K w 388 (zQ "Caps.told" [.tup []] (yD 33 3)):=fnOk_one (D:=.tup []) (ns:=["self", "word"]) (x := "params") Z.f11 (by kernel_rfl) rfl (by decide +kernel) rfl Z.f12 fun _ _ _ hK ho=>⟨380,#[],0,rfl,ho _ _ Z.f13,hK _ _ Z.f13,rfl⟩
theorem fn_467:FnOk K w 467 (zQ "Info.__init__" [.tup []] (yD 41 0)):=fnOk_one (D:=.tup []) (ns:=["self", "names", "booleans", "numbers", "strings", "more"]) (x := "uses") Z.f14 (by kernel_rfl) rfl (by decide +kernel) rfl Z.f15 fun _ _ _ hK ho=>⟨459,#[],0,rfl,ho _ _ Z.f16,hK _ _ Z.f16,rfl⟩
theorem fns_ok:∀ a fi,fnTab.lookup a=some fi->FnOk K w a fi:=fun a fi h=>by
 rcases List.mem_append.mp (jR h) with h | h
 ·exact plain_fns Z _ h
 ·simp only [fnTabD,List.mem_cons,List.not_mem_nil,or_false,Prod.mk.injEq] at h;rcases h with ⟨rfl,rfl⟩ | ⟨rfl,rfl⟩ | ⟨rfl,rfl⟩ | ⟨rfl,rfl⟩
  ·exact fn_328 Z
  ·exact fn_379 Z
  ·exact fn_388 Z
  ·exact fn_467 Z
theorem law_fn:FnOk K w 569 lawFi:=fnOk_none Z.f22 (by kernel_rfl) (by kernel_rfl) (by decide +kernel)
theorem clss_ok:∀ a ci,clsTab.lookup a=some ci->ClsOk K a ci:=fun a ci h=>by
 have q:=List.all_eq_true.mp Z.f17 _ (jR h);simp only [clsChk,Bool.and_eq_true,beq_iff_eq,List.all_eq_true] at q;apply gk;intro J;obtain ⟨⟨⟨⟨⟨⟨⟨⟨h1,h2⟩,h3⟩,h4⟩,h5⟩,h6⟩,h7⟩,h8⟩,h9⟩:=q;apply J;clear J;exact ⟨h1,h2,h3,h4,h5,h6,h7,fun x hx=>h8 x (by simpa using hx),fun x f hx=>h9 _ (jR hx)⟩
theorem globs_ok{mb:Str->Option Value}(hb:∀ x:Str,x ≠ "__name__" -> mb x=bootBuiltins x):∀ x v,globTab.lookup x=some v->GlobOk K mb w x v:=fun x v h=>by
 have q:globChk K (x,v)=true:=by
  rcases List.mem_append.mp (jR h) with h | h
  ·exact List.all_eq_true.mp Z.f18 _ h
  ·exact List.all_eq_true.mp Z.f19 _ h
 unfold globChk at q;dsimp only at q;cases hn:nsIn K mainGlobals x with
 | none=>rw [hn] at q;exact fne q
 | some o =>
  rw [hn] at q;induction o using Option.casesOn with
  | some u=>induction v using Mine.V.casesOn with
   | ref a=>exact .inl ⟨_,hn,fun _ _ _=>valR_of (eq_of_beq q)⟩
   | int i=>exact .inl ⟨_,hn,fun _ _ _=>valI_of (eq_of_beq q)⟩
   | bytes b=>exact .inl ⟨_,hn,fun _ _ _=>valB_of (eq_of_beq q)⟩
   | _=>exact fne q
  | none =>
   have fin:∀ {b:Bool} {u:Value},((b&&!(x == "__name__"))=true)->(b=true->bootBuiltins x=some u)->mb x=some u:=fun q h=>by
    obtain ⟨q1,q2⟩:=Bool.and_eq_true_iff.mp q;exact (hb x fun e=>by rw [e] at q2;exact fne q2).trans (h q1)
   induction v using Mine.V.casesOn with
   | bi i=>exact .inr ⟨hn,_,fin q eq_of_beq,fun _ _ _=>rfl⟩
   | ty i=>exact .inr ⟨hn,_,fin q eq_of_beq,fun _ _ _=>rfl⟩
   | _=>exact fne q
theorem base_ok{prog:Program}{mb:Str->Option Value}(hb:∀ x:Str,x ≠ "__name__" -> mb x=bootBuiltins x):vE prog w K mb:=fun _ _ hs=>⟨fns_ok Z,clss_ok Z,globs_ok Z hb,hs⟩
end
noncomputable def Yf0(s:Shared):List (Option Obj):=(566::asL).map s.heap.get?
noncomputable def Ya0(w:World):List (Option Obj):=Yf0 (T1 w).abs
noncomputable def YP0(w:World)(h:Heap):Prop:=∀ a∈566::asL,∀ o,(T1 w).abs.heap.get? a=some o->h.get? a=some o
theorem hY0(w:World)(s:Shared)(h:Yf0 s=Ya0 w):YP0 w s.heap:=fun a ha o e=>by
 have:=List.map_inj_left.mp h a ha;refine rwp this ?_;exact e
theorem hYk0(w:World)(h h':Heap)(y:YP0 w h)(k:∀ b o,h.get? b=some o->h'.get? b=some o):YP0 w h':=fun a ha o e=>k a o (y a ha o e)
theorem KW_in{w:World}(Z:Facts w){h:Heap}(y:YP0 w h):(KW w).In h:=fun a o e=>by
 apply gk;intro J;obtain ⟨a',ha,h1⟩:=List.mem_filterMap.mp (jR e);obtain ⟨o1,h2,h3⟩:=Option.bind_eq_some_iff.mp h1;obtain ⟨o2,h4,h5⟩:=Option.map_eq_some_iff.mp h3;apply J;clear J;cases h5;have hz:=List.all_eq_true.mp Z.f26 _ ha;exact y a (.tail _ ha) o ((abs_get (Nat.le_of_ble_eq_true (Bool.and_eq_true_iff.mp hz).1) h2).trans h4)
theorem KW_not{w:World}(Z:Facts w){a:Addr}{o:Obj}(e:(KW w).lookup a=some o):a∈asL/\a≠566:=by
 apply gk;intro J;obtain ⟨a',ha,h1⟩:=List.mem_filterMap.mp (jR e);obtain ⟨o1,h2,h3⟩:=Option.bind_eq_some_iff.mp h1;obtain ⟨o2,h4,h5⟩:=Option.map_eq_some_iff.mp h3;apply J;clear J;cases h5;have hz:=(Bool.and_eq_true_iff.mp (List.all_eq_true.mp Z.f26 _ ha)).2;exact ⟨ha,fun q=>by rw [q] at hz;cases hz⟩
theorem tab_at{w:World}(Z:Facts w){h:Heap}(y:YP0 w h):h.get? 566=some (tabObj #[]):=y 566 (.head _) _ ((abs_get (Nat.le_of_ble_eq_true Z.f27) Z.f25).trans rfl)
theorem go0(w:World):topGo treeTable P0 w 11 annE 12 (H0 w) (topStub P0)=some (Sa w,⟨denote treeTable cE,cE,pos0,[topFrame pos0]⟩):=pre0 w
theorem runsA(w:World){T:SharedT}(hr:runR w=some (.next,T,cE,posE)):topRun treeTable P0 w 11 annE (3700+2) (Tb w).abs (restOf bE env0 cE pos0 [topFrame pos0])=some T.abs:=by
 have h1:topRun treeTable P0 w 11 annE 2 T.abs (restOf [] env0 cE posE [topFrame pos0])=some T.abs:=piece_nil (end0 w _);have h2:=piece_app (rest:=[]) (segRun_of ((runR_eq w).trans hr)) h1
 rwa [List.append_nil] at h2
theorem runsB(w:World){T:SharedT}(hr:runR w=some (.next,T,cE,posE)):topRun treeTable P0 w 11 annE (12+(1+(3700+2))) (H0 w) (topStub P0)=some T.abs :=
 go_top (go0 w) (piece_block (blk0 w) (runsA w hr))
theorem runsC(w:World){T:SharedT}(hr:runR w=some (.next,T,cE,posE)):topRun treeTable P0 w 11 annE 7390 (H0 w) (topStub P0)=some T.abs:=by
 have r:=topRun_mono 3675 _ _ _ _ (runsB w hr)
 rwa [show 12+(1+(3700+2))+3675=7390 from rfl] at r
theorem runsD(w:World){T:SharedT}(hr:runR w=some (.next,T,cE,posE))(hl:looks0 w T.abs=true):topFrom treeTable P0 w 7390 (H0 w)=some T.abs:=by
 obtain ⟨z1,z2,z3⟩:=top0 w;unfold topFrom;rw [z1,z2,z3,runsC w hr];show (match staticsOk (importedModules P0.main.body) (H0 w).heap T.abs.heap&&namesBound P0 T.abs.heap&&gensDone T.abs&&laidKept (H0 w).heap T.abs.heap with | true=>_ | false=>_)=_
 rw [show (staticsOk (importedModules P0.main.body) (H0 w).heap T.abs.heap&&namesBound P0 T.abs.heap&&gensDone T.abs&&laidKept (H0 w).heap T.abs.heap)=true from hl]
theorem left_of{p q:Program}{loose:List Str}{Xt:Shared->Bool}{α:Type}{Yf:Shared->α}{Ya:World->α}{N:Nat}{g0:Bool}{w:World}{h s:Shared}(o:fencedOpening treeTable p w N=some h)(t:topFrom treeTable p w N h=some s)
  (a:openSeen q loose (importedModules p.main.body) Xt g0 s=openGood q loose) (b:Yf s=Ya w):(openEnds treeTable p w N).map (fun s=>(openSeen q loose (importedModules p.main.body) Xt g0 s,Yf s))=some (openGood q loose,Ya w):=by
 unfold openEnds;refine rwp o ?_;show (topFrom treeTable p w N _).map _=_
 refine rwp t ?_;exact congrArg some (Prod.ext a b)
theorem left0:LeftO P0 q0 looseL Xt0 Yf0 Ya0 7390 true:=fun w=>left_of (open0 w) (runsD w (run1 w).1 (run1 w).2.1) (run1 w).2.2.1 rfl
end Mine
end
section
set_option tactic.hygienic false
namespace Mine
noncomputable def sgn:List UInt8:=[48,49,50,51,52,53,54,55,56,57,97,98,99,100,101,102]
theorem sgn_at(d:Nat)(h:d < 10):sgn[d]?=some (UInt8.ofNat (48+d)):=by
 exact (by decide +kernel:∀ d,d < 10->sgn[d]?=some (UInt8.ofNat (48+d))) d h
theorem yG(n k:Nat)(h:n < 10 ^ (k+1)):(zF n).length<=k+1:=by
 induction k generalizing n with
 | zero=>rw [qW];refine rwp (if_pos (by simpa using h)) ?_;simp
 | succ k ih =>
  rw [qW];split
  ·simp
  ·refine rwp List.length_append ?_;have:=ih (n / 10) (by rw [Nat.div_lt_iff_lt_mul (by decide)];rw [Nat.pow_succ] at h;exact h);simp;simp_all
theorem digs_pos(n:Nat):1<=(zF n).length:=by
 rw [qW];split
 ·simp
 ·simp
section
variable{prog:Program}{w:World}{K:Frag}{mb:Str->Option Value}{R R':Nat}(B:vE prog w K mb)
include B
theorem ok166:SpecOk prog w K mb 30 166 spFig :=
 jE (R':=0) fun args σ Q h=>by
  apply gk;intro J;obtain ⟨n,b,rfl,h⟩:=spFig_of h;obtain ⟨⟨rfl,h0,h1⟩,q⟩:=h;apply J;clear J;refine ⟨⟨trivial,trivial,trivial,trivial⟩,jH {},60,B _ _ yK,by exact Nat.lt_succ_self _,?_⟩;refine fn_in 59 0 rfl rfl (m:=[("number",.int n),("base",.int 10),("is_great",.bool false)]) (σ1:=[]) (by kernel_rfl) (by kernel_rfl) (by kernel_rfl) ?_;refine jC 3 4 59 55 rfl rfl (by decide) (by decide +kernel) ?_;rw [r166a];refine zR ?_;have hb:big=16777216:=rfl;refine jI 54 rfl (by kernel_rfl) (by kernel_rfl) (fun k m σ=>∃ (l:Nat) (f:List UInt8),k=2*l+(if f=[] then 1 else 0)/\l < 1000000000/\f.length<=20/\l*10 ^ f.length<=n.toNat /\
    zF n.toNat=(if l=0/\f≠[] then [] else zF l)++f.reverse /\
    m=([("number",.int n),("base",.int 10),("is_great",.bool false),("signs",.bytes sgn),("found",.loc 0),("left",.int (l:Nat))]:Loc)/\σ=[.barr f]) (2*n.toNat+1)
    ⟨n.toNat,[],rfl,by simp_all,by simp,by simp,by simp,by rw [Int.toNat_of_nonneg h0];rfl,rfl⟩ ?_
  intro k m σ' zq;apply gk;intro J;obtain ⟨l,f,rfl,hl,hf,hlf,hd,rfl,rfl⟩:=zq;apply J;clear J;have turn:(0 < l\/f=[])->zI (jH {}) 54 (zG 166 0) (whB (nth 3 (zE 166))) [("number",.int n),("base",.int 10),("is_great",.bool false),("signs",.bytes sgn),("found",.loc 0),("left",.int (l:Nat))] [.barr f]
    (loopK (fun k m σ=>∃ (l:Nat) (f:List UInt8),k=2*l+(if f=[] then 1 else 0)/\l < 1000000000/\f.length<=20/\l*10 ^ f.length<=n.toNat/\zF n.toNat=(if l=0/\f≠[] then [] else zF l)++f.reverse /\
     m=([("number",.int n),("base",.int 10),("is_great",.bool false),("signs",.bytes sgn),("found",.loc 0),("left",.int (l:Nat))]:Loc)/\σ=[.barr f]) (2*l+if f=[] then 1 else 0)
     (kN (fun m σ_1=>zI (jH {}) 55 (zG 166 0) ((zE 166).drop 4) m σ_1 (retK fun v σ'=>∃ u,Frz 0 σ' v u/\Q (ren [] u) σ)) (retK fun v σ'=>∃ u,Frz 0 σ' v u/\Q (ren [] u) σ))):=by
   intro hlt;have hf9:f.length<=9:=by
    rcases hlt with h | h
    ·by_cases h9:f.length<=9
     ·exact h9
     ·exfalso
      have h2:10 ^ 10<=10 ^ f.length:=Nat.pow_le_pow_right (by decide) (by exact Nat.lt_of_not_le (by assumption));have h3:10 ^ f.length<=l*10 ^ f.length:=Nat.le_mul_of_pos_left _ h;have:(10:Nat) ^ 10=10000000000:=by decide
      lia
    ·rw [h];simp
   have e:=r166b n (l:Nat) f;unfold sgn;rw [e];refine zC ⟨by grind only,by decide⟩ ?_;refine zD (a:=UInt8.ofNat (48+l%10)) (by rw [show ((l:Int)%10).toNat=l%10 by lia];exact sgn_at _ (Nat.mod_lt _ (by decide))) ?_;have hz:(UInt8.ofNat (48+l%10)).toNat=48+l%10:=by rw [UInt8.toNat_ofNat'];lia
   refine zC ⟨by grind only,by rw [hz];grind only,by lia⟩ ?_;refine ⟨2*(l / 10)+0,?_,l / 10,f++[UInt8.ofNat (48+l%10)],?_,by lia,by rw [List.length_append];simp;lia,?_,?_,?_,?_⟩
   ·split
    ·lia
    ·rename_i hne
     rcases hlt with h | h
     ·lia
     ·exact absurd h hne
   ·rw [if_neg (by simp)]
   ·rw [List.length_append,List.length_cons,List.length_nil,Nat.zero_add,Nat.pow_succ];refine Nat.le_trans ?_ hlf;have:l / 10*(10 ^ f.length*10)=(l / 10*10)*10 ^ f.length:=by
     rw [Nat.mul_comm (10 ^ f.length) 10,<- Nat.mul_assoc]
    rw [this];exact Nat.mul_le_mul_right _ (by lia)
   ·rw [hd,if_neg (by rintro ⟨a,b⟩;rcases hlt with h | h;simp_all;exact b h),List.reverse_append,List.reverse_singleton];rw [qW];by_cases h10:l < 10
    ·rw [if_pos h10,if_pos ⟨by simp_all,by simp⟩,Nat.mod_eq_of_lt h10];rfl
    ·rw [if_neg h10,if_neg (by simp_all)];simp
   ·rw [show ((l / 10:Nat):Int)=(l:Int) / 10 by simp_all]
   ·rw [show ((UInt8.ofNat (48+l%10)).toNat:Int).toNat=(UInt8.ofNat (48+l%10)).toNat by grind only,UInt8.ofNat_toNat]
  have et:=r166t n (l:Nat) f;show wpT _ _ _ _ [("number",.int n),("base",.int 10),("is_great",.bool false),("signs",.bytes [48,49,50,51,52,53,54,55,56,57,97,98,99,100,101,102]),("found",.loc 0),("left",.int (l:Nat))] _ _
  rw [et];refine zX (fun hc=>turn (.inl (by simp_all))) (fun hc=>?_);refine zC (by lia) (zX (fun hc2=>turn (.inr (List.length_eq_zero_iff.mp (by simp_all)))) (fun hc2=>?_));refine xC (by decide) (zR ?_);refine Eq.mpr (r166c n (l:Nat) f _) ?_;refine zC (by lia) (zC (by rw [List.length_reverse];lia) (pure_end trivial ?_));rw [hd,if_pos ⟨by simp_all,fun h=>hc2 (by rw [h];rfl)⟩] at q;exact q
theorem ok180:SpecOk prog w K mb 70 180 spWrit :=
 jE (R':=30) fun args σ Q h=>by
  apply gk;intro J;obtain ⟨l,d,v,rfl,h⟩:=spWrit_of h;obtain ⟨⟨rfl,rfl,h0,h1⟩,q⟩:=h;apply J;clear J;refine ⟨⟨trivial,trivial,trivial,trivial,trivial,trivial⟩,T180,80,B _ _ (zS (ok166 B) (by exact Nat.le_refl _) yK),by simp_all,?_⟩;rw [r180];have e:(v.natAbs:Int)=v:=by lia
  have hb:big=16777216:=rfl;have hl:=yG v.toNat 9 (by lia);refine rwp e ?_;refine ⟨⟨rfl,h0,h1⟩,xC (decide_eq_false (by simp_all)) ?_⟩;refine zC (by lia) (qB (decide_eq_true ?_) (zC ?_ (pure_end trivial ?_)))
  ·have:=digs_pos v.toNat;simp
  ·simp;lia
  ·exact q
end
end Mine
end
section
set_option tactic.hygienic false
set_option maxRecDepth 1000000
namespace Mine
noncomputable abbrev T159:Tabs:=jH { unroll:=[25,51,155] }
noncomputable abbrev T328:Tabs:=jH { specs:=[(159,spProg),(180,spWrit)],unroll:=[325] }
theorem r159_1(P:V->List O->Prop):wpF T159 200 159 [.bytes (yI 1)] [] P=(P (V.loc 2) [O.attrs ["octets", "at", "rows", "text", "opened"] [V.bytes (yI 1),V.int (0+2+1+2+1+1+2+1+2+1+1+2+1+1+1),V.loc 2,V.loc 5,V.lst []],O.inst 148 0,O.list [V.tup [V.str "param",V.int ((↑(UInt8.toNat 49):Int) - 48)],V.tup [V.str "char"],V.tup [V.str "text",V.bytes ([]++[UInt8.ofNat (↑(UInt8.toNat 27):Int).toNat]++[UInt8.ofNat (↑(UInt8.toNat 91):Int).toNat])],V.tup [V.str "param",V.int ((↑(UInt8.toNat 50):Int) - 48)],V.tup [V.str "push",V.int (1*(0*10+(↑(UInt8.toNat 49):Int) - 48))],V.tup [V.str "two",V.int (↑(UInt8.toNat 45):Int)],V.tup [V.str "write",V.int (↑(UInt8.toNat 100):Int),V.bytes [],V.int (min 0 10000),V.none],V.tup [V.str "text",V.bytes ([]++[UInt8.ofNat (↑(UInt8.toNat 98):Int).toNat])]],O.barr ([]++[UInt8.ofNat (↑(UInt8.toNat 27):Int).toNat]++[UInt8.ofNat (↑(UInt8.toNat 91):Int).toNat]),O.barr ([]++[UInt8.ofNat (↑(UInt8.toNat 98):Int).toNat]),O.barr []]):=by kernel_rfl
theorem r159_2(P:V->List O->Prop):wpF T159 200 159 [.bytes (yI 2)] [] P=(P (V.loc 2) [O.attrs ["octets", "at", "rows", "text", "opened"] [V.bytes (yI 2),V.int (0+1+1+2+1+1+1+1+2+1+1+1+1),V.loc 2,V.loc 6,V.lst []],O.inst 148 0,O.list [V.tup [V.str "text",V.bytes ([]++[UInt8.ofNat (↑(UInt8.toNat 27):Int).toNat]++[UInt8.ofNat (↑(UInt8.toNat 91):Int).toNat])],V.tup [V.str "param",V.int ((↑(UInt8.toNat 50):Int) - 48)],V.tup [V.str "write",V.int (↑(UInt8.toNat 100):Int),V.bytes [],V.int (min 0 10000),V.none],V.tup [V.str "text",V.bytes ([]++[UInt8.ofNat (↑(UInt8.toNat 59):Int).toNat])],V.tup [V.str "param",V.int ((↑(UInt8.toNat 49):Int) - 48)],V.tup [V.str "write",V.int (↑(UInt8.toNat 100):Int),V.bytes [],V.int (min 0 10000),V.none],V.tup [V.str "text",V.bytes ([]++[UInt8.ofNat (↑(UInt8.toNat 114):Int).toNat])]],O.barr ([]++[UInt8.ofNat (↑(UInt8.toNat 27):Int).toNat]++[UInt8.ofNat (↑(UInt8.toNat 91):Int).toNat]),O.barr ([]++[UInt8.ofNat (↑(UInt8.toNat 59):Int).toNat]),O.barr ([]++[UInt8.ofNat (↑(UInt8.toNat 114):Int).toNat]),O.barr []]):=by kernel_rfl
theorem r159_3(P:V->List O->Prop):wpF T159 200 159 [.bytes (yI 3)] [] P=(P (V.loc 2) [O.attrs ["octets", "at", "rows", "text", "opened"] [V.bytes (yI 3),V.int (0+1+2+1+2+2+1+1+1+1+1+1+1+1),V.loc 2,V.loc 5,V.lst []],O.inst 148 0,O.list [V.tup [V.str "text",V.bytes ([]++[UInt8.ofNat (↑(UInt8.toNat 27):Int).toNat])],V.tup [V.str "param",V.int ((↑(UInt8.toNat 49):Int) - 48)],V.tup [V.str "char"],V.tup [V.str "param",V.int ((↑(UInt8.toNat 50):Int) - 48)],V.tup [V.str "write",V.int (↑(UInt8.toNat 100):Int),V.bytes [],V.int (min 0 10000),V.none],V.tup [V.str "text",V.bytes ([]++[UInt8.ofNat (↑(UInt8.toNat 33):Int).toNat]++[UInt8.ofNat (↑(UInt8.toNat 36):Int).toNat]++[UInt8.ofNat (↑(UInt8.toNat 60):Int).toNat]++[UInt8.ofNat (↑(UInt8.toNat 53):Int).toNat]++[UInt8.ofNat (↑(UInt8.toNat 62):Int).toNat])]],O.barr ([]++[UInt8.ofNat (↑(UInt8.toNat 27):Int).toNat]),O.barr ([]++[UInt8.ofNat (↑(UInt8.toNat 33):Int).toNat]++[UInt8.ofNat (↑(UInt8.toNat 36):Int).toNat]++[UInt8.ofNat (↑(UInt8.toNat 60):Int).toNat]++[UInt8.ofNat (↑(UInt8.toNat 53):Int).toNat]++[UInt8.ofNat (↑(UInt8.toNat 62):Int).toNat]),O.barr []]):=by kernel_rfl
theorem r159_4(P:V->List O->Prop):wpF T159 200 159 [.bytes (yI 4)] [] P=(P (V.loc 2) [O.attrs ["octets", "at", "rows", "text", "opened"] [V.bytes (yI 4),V.int (0+1+2+1+2+2+1+1+1+1),V.loc 2,V.loc 5,V.lst []],O.inst 148 0,O.list [V.tup [V.str "text",V.bytes ([]++[UInt8.ofNat (↑(UInt8.toNat 82):Int).toNat])],V.tup [V.str "param",V.int ((↑(UInt8.toNat 49):Int) - 48)],V.tup [V.str "char"],V.tup [V.str "param",V.int ((↑(UInt8.toNat 50):Int) - 48)],V.tup [V.str "write",V.int (↑(UInt8.toNat 100):Int),V.bytes [],V.int (min 0 10000),V.none],V.tup [V.str "text",V.bytes ([]++[UInt8.ofNat (↑(UInt8.toNat 46):Int).toNat])]],O.barr ([]++[UInt8.ofNat (↑(UInt8.toNat 82):Int).toNat]),O.barr ([]++[UInt8.ofNat (↑(UInt8.toNat 46):Int).toNat]),O.barr []]):=by kernel_rfl
end Mine
end
section
set_option tactic.hygienic false
set_option maxRecDepth 1000000
namespace Mine
theorem r328_1(c m:Int)(P:V->Prop):wpF T328 200 328 [.bytes (yI 1),.lst [.int c,.int m]] [] (fun v _=>P v)=(ifB (decide (((c+(4294967296 / 2:Int))%(4294967296:Int) - (4294967296 / 2:Int))%(256:Int)=(0:Int))) (((100:Int)=(100:Int)/\(0:Int)=(0:Int)/\(0:Int)<=((m+(4294967296 / 2:Int))%(4294967296:Int) - (4294967296 / 2:Int) - (((1:Int)+(4294967296 / 2:Int))%(4294967296:Int) - (4294967296 / 2:Int))+(4294967296 / 2:Int))%(4294967296:Int) - (4294967296 / 2:Int)/\((m+(4294967296 / 2:Int))%(4294967296:Int) - (4294967296 / 2:Int) - (((1:Int)+(4294967296 / 2:Int))%(4294967296:Int) - (4294967296 / 2:Int))+(4294967296 / 2:Int))%(4294967296:Int) - (4294967296 / 2:Int) < (1000000000:Int))/\chk (decide (3+(zF (((m+(4294967296 / 2:Int))%(4294967296:Int) - (4294967296 / 2:Int) - (((1:Int)+(4294967296 / 2:Int))%(4294967296:Int) - (4294967296 / 2:Int))+(4294967296 / 2:Int))%(4294967296:Int) - (4294967296 / 2:Int)).toNat).length < 1000000)) (chk (decide (([]++[UInt8.ofNat (Int.toNat (128:Int))]++[(27:UInt8),(91:UInt8)]++zF (((m+(4294967296 / 2:Int))%(4294967296:Int) - (4294967296 / 2:Int) - (((1:Int)+(4294967296 / 2:Int))%(4294967296:Int) - (4294967296 / 2:Int))+(4294967296 / 2:Int))%(4294967296:Int) - (4294967296 / 2:Int)).toNat).length+1 < 1000000)) (chk (decide (([]++[UInt8.ofNat (Int.toNat (128:Int))]++[(27:UInt8),(91:UInt8)]++zF (((m+(4294967296 / 2:Int))%(4294967296:Int) - (4294967296 / 2:Int) - (((1:Int)+(4294967296 / 2:Int))%(4294967296:Int) - (4294967296 / 2:Int))+(4294967296 / 2:Int))%(4294967296:Int) - (4294967296 / 2:Int)).toNat++[(98:UInt8)]).length<=big)) (P (V.bytes ([]++[UInt8.ofNat (Int.toNat (128:Int))]++[(27:UInt8),(91:UInt8)]++zF (((m+(4294967296 / 2:Int))%(4294967296:Int) - (4294967296 / 2:Int) - (((1:Int)+(4294967296 / 2:Int))%(4294967296:Int) - (4294967296 / 2:Int))+(4294967296 / 2:Int))%(4294967296:Int) - (4294967296 / 2:Int)).toNat++[(98:UInt8)])))))) (chk (decide ((0:Int)<=((c+(4294967296 / 2:Int))%(4294967296:Int) - (4294967296 / 2:Int))%(256:Int)/\((c+(4294967296 / 2:Int))%(4294967296:Int) - (4294967296 / 2:Int))%(256:Int) < (256:Int)/\0 < 1000000)) (((100:Int)=(100:Int)/\(0:Int)=(0:Int)/\(0:Int)<=((m+(4294967296 / 2:Int))%(4294967296:Int) - (4294967296 / 2:Int) - (((1:Int)+(4294967296 / 2:Int))%(4294967296:Int) - (4294967296 / 2:Int))+(4294967296 / 2:Int))%(4294967296:Int) - (4294967296 / 2:Int)/\((m+(4294967296 / 2:Int))%(4294967296:Int) - (4294967296 / 2:Int) - (((1:Int)+(4294967296 / 2:Int))%(4294967296:Int) - (4294967296 / 2:Int))+(4294967296 / 2:Int))%(4294967296:Int) - (4294967296 / 2:Int) < (1000000000:Int))/\chk (decide (([]++[UInt8.ofNat (((c+(4294967296 / 2:Int))%(4294967296:Int) - (4294967296 / 2:Int))%(256:Int)).toNat]++[(27:UInt8),(91:UInt8)]).length+(zF (((m+(4294967296 / 2:Int))%(4294967296:Int) - (4294967296 / 2:Int) - (((1:Int)+(4294967296 / 2:Int))%(4294967296:Int) - (4294967296 / 2:Int))+(4294967296 / 2:Int))%(4294967296:Int) - (4294967296 / 2:Int)).toNat).length < 1000000)) (chk (decide (([]++[UInt8.ofNat (((c+(4294967296 / 2:Int))%(4294967296:Int) - (4294967296 / 2:Int))%(256:Int)).toNat]++[(27:UInt8),(91:UInt8)]++zF (((m+(4294967296 / 2:Int))%(4294967296:Int) - (4294967296 / 2:Int) - (((1:Int)+(4294967296 / 2:Int))%(4294967296:Int) - (4294967296 / 2:Int))+(4294967296 / 2:Int))%(4294967296:Int) - (4294967296 / 2:Int)).toNat).length+1 < 1000000)) (chk (decide (([]++[UInt8.ofNat (((c+(4294967296 / 2:Int))%(4294967296:Int) - (4294967296 / 2:Int))%(256:Int)).toNat]++[(27:UInt8),(91:UInt8)]++zF (((m+(4294967296 / 2:Int))%(4294967296:Int) - (4294967296 / 2:Int) - (((1:Int)+(4294967296 / 2:Int))%(4294967296:Int) - (4294967296 / 2:Int))+(4294967296 / 2:Int))%(4294967296:Int) - (4294967296 / 2:Int)).toNat++[(98:UInt8)]).length<=big)) (P (V.bytes ([]++[UInt8.ofNat (((c+(4294967296 / 2:Int))%(4294967296:Int) - (4294967296 / 2:Int))%(256:Int)).toNat]++[(27:UInt8),(91:UInt8)]++zF (((m+(4294967296 / 2:Int))%(4294967296:Int) - (4294967296 / 2:Int) - (((1:Int)+(4294967296 / 2:Int))%(4294967296:Int) - (4294967296 / 2:Int))+(4294967296 / 2:Int))%(4294967296:Int) - (4294967296 / 2:Int)).toNat++[(98:UInt8)])))))))):=by kernel_rfl
theorem r328_2(c m:Int)(P:V->Prop):wpF T328 200 328 [.bytes (yI 2),.lst [.int c,.int m]] [] (fun v _=>P v)=(((100:Int)=(100:Int)/\(0:Int)=(0:Int)/\(0:Int)<=(m+(4294967296 / 2:Int))%(4294967296:Int) - (4294967296 / 2:Int)/\(m+(4294967296 / 2:Int))%(4294967296:Int) - (4294967296 / 2:Int) < (1000000000:Int))/\chk (decide (2+(zF ((m+(4294967296 / 2:Int))%(4294967296:Int) - (4294967296 / 2:Int)).toNat).length < 1000000)) (chk (decide (([]++[(27:UInt8),(91:UInt8)]++zF ((m+(4294967296 / 2:Int))%(4294967296:Int) - (4294967296 / 2:Int)).toNat).length+1 < 1000000)) (((100:Int)=(100:Int)/\(0:Int)=(0:Int)/\(0:Int)<=(c+(4294967296 / 2:Int))%(4294967296:Int) - (4294967296 / 2:Int)/\(c+(4294967296 / 2:Int))%(4294967296:Int) - (4294967296 / 2:Int) < (1000000000:Int))/\chk (decide (([]++[(27:UInt8),(91:UInt8)]++zF ((m+(4294967296 / 2:Int))%(4294967296:Int) - (4294967296 / 2:Int)).toNat++[(59:UInt8)]).length+(zF ((c+(4294967296 / 2:Int))%(4294967296:Int) - (4294967296 / 2:Int)).toNat).length < 1000000)) (chk (decide (([]++[(27:UInt8),(91:UInt8)]++zF ((m+(4294967296 / 2:Int))%(4294967296:Int) - (4294967296 / 2:Int)).toNat++[(59:UInt8)]++zF ((c+(4294967296 / 2:Int))%(4294967296:Int) - (4294967296 / 2:Int)).toNat).length+1 < 1000000)) (chk (decide (([]++[(27:UInt8),(91:UInt8)]++zF ((m+(4294967296 / 2:Int))%(4294967296:Int) - (4294967296 / 2:Int)).toNat++[(59:UInt8)]++zF ((c+(4294967296 / 2:Int))%(4294967296:Int) - (4294967296 / 2:Int)).toNat++[(114:UInt8)]).length<=big)) (P (V.bytes ([]++[(27:UInt8),(91:UInt8)]++zF ((m+(4294967296 / 2:Int))%(4294967296:Int) - (4294967296 / 2:Int)).toNat++[(59:UInt8)]++zF ((c+(4294967296 / 2:Int))%(4294967296:Int) - (4294967296 / 2:Int)).toNat++[(114:UInt8)])))))))):=by kernel_rfl
theorem r328_3(c m:Int)(P:V->Prop):wpF T328 200 328 [.bytes (yI 3),.lst [.int c,.int m]] [] (fun v _=>P v)=(ifB (decide (((c+(4294967296 / 2:Int))%(4294967296:Int) - (4294967296 / 2:Int))%(256:Int)=(0:Int))) (((100:Int)=(100:Int)/\(0:Int)=(0:Int)/\(0:Int)<=(m+(4294967296 / 2:Int))%(4294967296:Int) - (4294967296 / 2:Int)/\(m+(4294967296 / 2:Int))%(4294967296:Int) - (4294967296 / 2:Int) < (1000000000:Int))/\chk (decide (2+(zF ((m+(4294967296 / 2:Int))%(4294967296:Int) - (4294967296 / 2:Int)).toNat).length < 1000000)) (chk (decide (([]++[(27:UInt8)]++[UInt8.ofNat (Int.toNat (128:Int))]++zF ((m+(4294967296 / 2:Int))%(4294967296:Int) - (4294967296 / 2:Int)).toNat).length+5 < 1000000)) (chk (decide (([]++[(27:UInt8)]++[UInt8.ofNat (Int.toNat (128:Int))]++zF ((m+(4294967296 / 2:Int))%(4294967296:Int) - (4294967296 / 2:Int)).toNat++[(33:UInt8),(36:UInt8),(60:UInt8),(53:UInt8),(62:UInt8)]).length<=big)) (P (V.bytes ([]++[(27:UInt8)]++[UInt8.ofNat (Int.toNat (128:Int))]++zF ((m+(4294967296 / 2:Int))%(4294967296:Int) - (4294967296 / 2:Int)).toNat++[(33:UInt8),(36:UInt8),(60:UInt8),(53:UInt8),(62:UInt8)])))))) (chk (decide ((0:Int)<=((c+(4294967296 / 2:Int))%(4294967296:Int) - (4294967296 / 2:Int))%(256:Int)/\((c+(4294967296 / 2:Int))%(4294967296:Int) - (4294967296 / 2:Int))%(256:Int) < (256:Int)/\1 < 1000000)) (((100:Int)=(100:Int)/\(0:Int)=(0:Int)/\(0:Int)<=(m+(4294967296 / 2:Int))%(4294967296:Int) - (4294967296 / 2:Int)/\(m+(4294967296 / 2:Int))%(4294967296:Int) - (4294967296 / 2:Int) < (1000000000:Int))/\chk (decide (([]++[(27:UInt8)]++[UInt8.ofNat (((c+(4294967296 / 2:Int))%(4294967296:Int) - (4294967296 / 2:Int))%(256:Int)).toNat]).length+(zF ((m+(4294967296 / 2:Int))%(4294967296:Int) - (4294967296 / 2:Int)).toNat).length < 1000000)) (chk (decide (([]++[(27:UInt8)]++[UInt8.ofNat (((c+(4294967296 / 2:Int))%(4294967296:Int) - (4294967296 / 2:Int))%(256:Int)).toNat]++zF ((m+(4294967296 / 2:Int))%(4294967296:Int) - (4294967296 / 2:Int)).toNat).length+5 < 1000000)) (chk (decide (([]++[(27:UInt8)]++[UInt8.ofNat (((c+(4294967296 / 2:Int))%(4294967296:Int) - (4294967296 / 2:Int))%(256:Int)).toNat]++zF ((m+(4294967296 / 2:Int))%(4294967296:Int) - (4294967296 / 2:Int)).toNat++[(33:UInt8),(36:UInt8),(60:UInt8),(53:UInt8),(62:UInt8)]).length<=big)) (P (V.bytes ([]++[(27:UInt8)]++[UInt8.ofNat (((c+(4294967296 / 2:Int))%(4294967296:Int) - (4294967296 / 2:Int))%(256:Int)).toNat]++zF ((m+(4294967296 / 2:Int))%(4294967296:Int) - (4294967296 / 2:Int)).toNat++[(33:UInt8),(36:UInt8),(60:UInt8),(53:UInt8),(62:UInt8)])))))))):=by kernel_rfl
theorem r328_4(c m:Int)(P:V->Prop):wpF T328 200 328 [.bytes (yI 4),.lst [.int c,.int m]] [] (fun v _=>P v)=(yI 4=yI 4/\ifB (decide (((c+(4294967296 / 2:Int))%(4294967296:Int) - (4294967296 / 2:Int))%(256:Int)=(0:Int))) (((100:Int)=(100:Int)/\(0:Int)=(0:Int)/\(0:Int)<=(m+(4294967296 / 2:Int))%(4294967296:Int) - (4294967296 / 2:Int)/\(m+(4294967296 / 2:Int))%(4294967296:Int) - (4294967296 / 2:Int) < (1000000000:Int))/\chk (decide (2+(zF ((m+(4294967296 / 2:Int))%(4294967296:Int) - (4294967296 / 2:Int)).toNat).length < 1000000)) (chk (decide (([]++[(82:UInt8)]++[UInt8.ofNat (Int.toNat (128:Int))]++zF ((m+(4294967296 / 2:Int))%(4294967296:Int) - (4294967296 / 2:Int)).toNat).length+1 < 1000000)) (chk (decide (([]++[(82:UInt8)]++[UInt8.ofNat (Int.toNat (128:Int))]++zF ((m+(4294967296 / 2:Int))%(4294967296:Int) - (4294967296 / 2:Int)).toNat++[(46:UInt8)]).length<=big)) (P (V.bytes ([]++[(82:UInt8)]++[UInt8.ofNat (Int.toNat (128:Int))]++zF ((m+(4294967296 / 2:Int))%(4294967296:Int) - (4294967296 / 2:Int)).toNat++[(46:UInt8)])))))) (chk (decide ((0:Int)<=((c+(4294967296 / 2:Int))%(4294967296:Int) - (4294967296 / 2:Int))%(256:Int)/\((c+(4294967296 / 2:Int))%(4294967296:Int) - (4294967296 / 2:Int))%(256:Int) < (256:Int)/\1 < 1000000)) (((100:Int)=(100:Int)/\(0:Int)=(0:Int)/\(0:Int)<=(m+(4294967296 / 2:Int))%(4294967296:Int) - (4294967296 / 2:Int)/\(m+(4294967296 / 2:Int))%(4294967296:Int) - (4294967296 / 2:Int) < (1000000000:Int))/\chk (decide (([]++[(82:UInt8)]++[UInt8.ofNat (((c+(4294967296 / 2:Int))%(4294967296:Int) - (4294967296 / 2:Int))%(256:Int)).toNat]).length+(zF ((m+(4294967296 / 2:Int))%(4294967296:Int) - (4294967296 / 2:Int)).toNat).length < 1000000)) (chk (decide (([]++[(82:UInt8)]++[UInt8.ofNat (((c+(4294967296 / 2:Int))%(4294967296:Int) - (4294967296 / 2:Int))%(256:Int)).toNat]++zF ((m+(4294967296 / 2:Int))%(4294967296:Int) - (4294967296 / 2:Int)).toNat).length+1 < 1000000)) (chk (decide (([]++[(82:UInt8)]++[UInt8.ofNat (((c+(4294967296 / 2:Int))%(4294967296:Int) - (4294967296 / 2:Int))%(256:Int)).toNat]++zF ((m+(4294967296 / 2:Int))%(4294967296:Int) - (4294967296 / 2:Int)).toNat++[(46:UInt8)]).length<=big)) (P (V.bytes ([]++[(82:UInt8)]++[UInt8.ofNat (((c+(4294967296 / 2:Int))%(4294967296:Int) - (4294967296 / 2:Int))%(256:Int)).toNat]++zF ((m+(4294967296 / 2:Int))%(4294967296:Int) - (4294967296 / 2:Int)).toNat++[(46:UInt8)])))))))):=by kernel_rfl
end Mine
end
section
set_option tactic.hygienic false
set_option maxHeartbeats 1000000
namespace Mine
theorem rows_end{i:Nat}{σ σ':List O}{vs:List V}{Q:V->List O->Prop}(h:σ'[i]?=some (.list vs))(hc:yR 0 vs)(q:Q (.lst vs) σ):∃ u,Frz 0 σ' (.loc i) u/\Q (ren [] u) σ :=
 ⟨.lst vs,.inr ⟨Nat.zero_le _,vs,h,hc,rfl⟩,by refine rwp (ren_clo _ _ (show Clo 0 (.lst vs) from hc)) ?_;exact q⟩
theorem rows_clo:∀ j,yR 0 (qM j)
 | 1=>⟨⟨trivial,trivial,trivial⟩,⟨trivial,trivial⟩,⟨trivial,trivial,trivial⟩,⟨trivial,trivial,trivial⟩,⟨trivial,trivial,trivial⟩,⟨trivial,trivial,trivial⟩,⟨trivial,trivial,trivial,trivial,trivial,trivial⟩,⟨trivial,trivial,trivial⟩,trivial⟩
 | 2=>⟨⟨trivial,trivial,trivial⟩,⟨trivial,trivial,trivial⟩,⟨trivial,trivial,trivial,trivial,trivial,trivial⟩,⟨trivial,trivial,trivial⟩,⟨trivial,trivial,trivial⟩,⟨trivial,trivial,trivial,trivial,trivial,trivial⟩,⟨trivial,trivial,trivial⟩,trivial⟩
 | 3=>⟨⟨trivial,trivial,trivial⟩,⟨trivial,trivial,trivial⟩,⟨trivial,trivial⟩,⟨trivial,trivial,trivial⟩,⟨trivial,trivial,trivial,trivial,trivial,trivial⟩,⟨trivial,trivial,trivial⟩,trivial⟩
 | 0 | _+4=>⟨⟨trivial,trivial,trivial⟩,⟨trivial,trivial,trivial⟩,⟨trivial,trivial⟩,⟨trivial,trivial,trivial⟩,⟨trivial,trivial,trivial,trivial,trivial,trivial⟩,⟨trivial,trivial,trivial⟩,trivial⟩
theorem norm_int{c:Int}(h0:0<=c)(h1:c < 1000000):(c+4294967296 / 2)%4294967296 - 4294967296 / 2=c:=by lia
section
variable{prog:Program}{w:World}{K:Frag}{mb:Str->Option Value}{R R':Nat}(B:vE prog w K mb)
include B
theorem ok159:SpecOk prog w K mb 100 159 spProg :=
 jE (R':=0) fun args σ Q h=>by
  replace h:=spProg_of h;obtain ⟨b,rfl,h⟩:=h
  ·refine ⟨⟨trivial,trivial⟩,T159,200,B _ _ yK,by exact Nat.lt_succ_self _,?_⟩;split at h
   ·rename_i hb
    refine rwp (of_decide_eq_true hb) ?_;rw [r159_1];exact rows_end (vs:=qM 1) (by kernel_rfl) (rows_clo 1) h
   ·split at h
    ·rename_i hb
     refine rwp (of_decide_eq_true hb) ?_;rw [r159_2];exact rows_end (vs:=qM 2) (by kernel_rfl) (rows_clo 2) h
    ·split at h
     ·rename_i hb
      refine rwp (of_decide_eq_true hb) ?_;rw [r159_3];exact rows_end (vs:=qM 3) (by kernel_rfl) (rows_clo 3) h
     ·obtain ⟨rfl,h⟩:=h;rw [r159_4];exact rows_end (vs:=qM 4) (by kernel_rfl) (rows_clo 4) h
theorem ok328:SpecOk prog w K mb 200 328 spExp :=
 xU (R':=100) fun args σ Q h=>by
  replace h:=spExp_of h;apply gk;intro J;obtain ⟨b,c,m,rfl,h⟩:=h;apply J;clear J
  ·apply gk;intro J;obtain ⟨j,⟨j1,j4,rfl,c0,c1,m0,m1⟩,q⟩:=h;apply J;clear J;refine ⟨⟨trivial,⟨trivial,trivial,trivial⟩,trivial⟩,T328,200,B _ _ (zS (ok159 B) (by exact Nat.le_refl _) (zS (ok180 B) (by exact Nat.le_add_left _ _) yK)),by simp_all,?_⟩;have ec:=norm_int (c:=c) (by lia) (by lia);have em:=norm_int (c:=m) (by lia) (by lia);have e1:=norm_int (c:=1) (by simp_all) (by simp_all);have em1:=norm_int (c:=m - 1) (by lia) (by lia);have lm:=yG m.toNat 9 (by lia);have lm1:=yG (m.toNat - 1) 9 (by lia);have hm1:(m - 1).toNat=m.toNat - 1:=by simp [*]
   have lc:=yG c.toNat 9 (by lia);have hb:big=16777216:=rfl;have hc:c%256=c:=by lia
   have hcu:(UInt8.ofNat c.toNat).toNat=c.toNat:=by refine rwp UInt8.toNat_ofNat' ?_;lia
   have:j=1\/j=2\/j=3\/j=4:=by lia
   rcases this with rfl | rfl | rfl | rfl
   ·refine rwp (r328_1 c m fun v=>Clo 0 v/\Q v σ) ?_;simp only [ec,em,e1,em1,hc,hm1];refine xC (decide_eq_false (by lia)) (zC ⟨by lia,by simp_all,by exact Nat.le_add_left _ _⟩ ⟨⟨trivial,trivial,by lia,by lia⟩,?_⟩);refine zC (by simp;lia) (zC (by simp;lia) (zC (by simp;lia) ⟨trivial,?_⟩));simp only [full] at q;simpa using q
   ·refine rwp (r328_2 c m fun v=>Clo 0 v/\Q v σ) ?_;simp only [ec,em];refine ⟨⟨trivial,trivial,by lia,by lia⟩,zC (by lia) (zC (by simp;lia) ⟨⟨trivial,trivial,by lia,by lia⟩,?_⟩)⟩;refine zC (by simp;lia) (zC (by simp;lia) (zC (by simp;lia) ⟨trivial,?_⟩));simp only [full,hcu] at q;simpa using q
   ·refine rwp (r328_3 c m fun v=>Clo 0 v/\Q v σ) ?_;simp only [ec,em,hc];refine xC (decide_eq_false (by lia)) (zC ⟨by lia,by lia,by simp⟩ ⟨⟨trivial,trivial,by lia,by lia⟩,?_⟩);refine zC (by simp;lia) (zC (by simp;lia) (zC (by simp;lia) ⟨trivial,?_⟩));simp only [full] at q;simpa using q
   ·refine rwp (r328_4 c m fun v=>Clo 0 v/\Q v σ) ?_;simp only [ec,em,hc];refine ⟨trivial,xC (decide_eq_false (by lia)) (zC ⟨by lia,by lia,by simp⟩ ⟨⟨trivial,trivial,by lia,by lia⟩,?_⟩)⟩;refine zC (by simp;lia) (zC (by simp;lia) (zC (by simp;lia) ⟨trivial,?_⟩));simp only [full] at q;simpa using q
end
end Mine
end
section
set_option tactic.hygienic false
namespace Mine
noncomputable def codesI:List Int:=[97,98,36,60,126,33]
noncomputable def jJ(j:Nat)(c:UInt8)(many:Nat):List UInt8:=match j with
 | 1=>[c,27,91]++zF (many - 1)++[98]
 | 2=>[27,91]++zF many++[59]++zF c.toNat++[114]
 | 3=>[27,c]++zF many++[33]
 | _=>[82,c]++zF many++[46]
noncomputable def jN:List UInt8:=[114,101,112]
noncomputable def xB:List Str:=["names", "booleans", "numbers", "strings", "more", "uses"]
noncomputable def xF:List Str:=["info", "kept"]
noncomputable def xY(form:Nat):V:=match form with
 | 0=>.dct [] []
 | j=>.dct [.bytes jN] [.bytes (yI j)]
noncomputable def yW(st:V):List V:=[.lst [.bytes [120]],.dct [] [],.dct [] [],st,.dct [] [],.lst []]
noncomputable def kH(form:Nat)(c m:Int):V:=match form with
 | 0=>.none
 | j=>.bytes (jJ j (UInt8.ofNat c.toNat) m.toNat)
noncomputable def xJ(p:Int×Int):V:=.tup [.bytes jN,.tup [.int p.1,.int p.2]]
noncomputable def kR(form:Nat)(p:Int×Int):V:=kH form p.1 p.2
noncomputable def yO(form:Nat)(ps:List (Int×Int)):O:=.dict (ps.map xJ) (ps.map (kR form))
noncomputable def yH(ps:List (Int×Int)):Prop:=ps.Nodup/\∀ p∈ps,p.1∈codesI/\2<=p.2/\p.2<=1000
noncomputable def CapsIn(σ:List O)(cp kp form:Nat)(ps:List (Int×Int)):Prop:=∃ ca inf ia,[cp,ca,inf,ia,kp].Nodup/\σ[cp]?=some (.inst 405 ca)/\σ[ca]?=some (.attrs xF [.loc inf,.loc kp]) /\
 σ[inf]?=some (.inst 470 ia)/\σ[ia]?=some (.attrs xB (yW (xY form)))/\σ[kp]?=some (yO form ps)/\form<=4/\yH ps
noncomputable def spFil:xM:=fun args σ Q=>twoA args fun z0 z1=>zB (qE z1) fun l=>twoA l fun y0 y1=>zB (zL y0) fun c=>zB (zL y1) fun m=>match yS z0 with
 | some b=>∃ j:Nat,(1<=j/\j<=4/\b=yI j/\c∈codesI/\2<=m/\m<=1000)/\Q (.bytes (jJ j (UInt8.ofNat c.toNat) m.toNat)) σ
 | none=>chk (isNone z0) (Q .none σ)
theorem spFil_of{args:List V}{σ:List O}{Q:V->List O->Prop}(hh:spFil args σ Q):∃ c m,(args=[.none,.lst [.int c,.int m]]/\Q .none σ)\/∃ b,args=[.bytes b,.lst [.int c,.int m]] /\
  ∃ j:Nat,(1<=j/\j<=4/\b=yI j/\c∈codesI/\2<=m/\m<=1000)/\Q (.bytes (jJ j (UInt8.ofNat c.toNat) m.toNat)) σ:=by
 apply gk;intro J;obtain ⟨z0,z1,e,h⟩:=xI hh;obtain ⟨l,e0,h⟩:=zA h;obtain ⟨y0,y1,e1,h⟩:=xI h;obtain ⟨c,e2,h⟩:=zA h;obtain ⟨m,e3,h⟩:=zA h;apply J;clear J;refine ⟨c,m,?_⟩;refine rwp e ?_;refine rwp (jA e0) ?_;refine rwp e1 ?_;refine rwp (zJ e2) ?_;refine rwp (zJ e3) ?_;cases e4:yS z0 with
 | some b=>rw [e4] at h;refine rwp (zZ e4) ?_;exact .inr ⟨b,rfl,h⟩
 | none=>rw [e4] at h;obtain ⟨e5,h⟩:=jM h;refine rwp (xA e5) ?_;exact .inl ⟨rfl,h⟩
noncomputable def spTold:xM:=fun args σ Q=>qF args fun z0 z1 z2=>zB (kU z0) fun cp=>zB (yS z1) fun wd=>zB (jO z2) fun l3=>twoA l3 fun z4 z5=>zB (zL z4) fun c=>zB (zL z5) fun m =>
  ∃ kp form ps,(wd=jN/\CapsIn σ cp kp form ps/\c∈codesI/\2<=m/\m<=1000)/\∀ ps',yH ps'->Q (kH form c m) (σ.set kp (yO form ps'))
theorem spTold_of{args:List V}{σ:List O}{Q:V->List O->Prop}(hh:spTold args σ Q):∃ cp wd c m,args=[.loc cp,.bytes wd,.tup [.int c,.int m]] /\
  (∃ kp form ps,(wd=jN/\CapsIn σ cp kp form ps/\c∈codesI/\2<=m/\m<=1000)/\∀ ps',yH ps'->Q (kH form c m) (σ.set kp (yO form ps'))):=by
 apply gk;intro J;obtain ⟨z0,z1,z2,rfl,h⟩:=xT hh;obtain ⟨cp,e0,h⟩:=zA h;obtain ⟨wd,e1,h⟩:=zA h;obtain ⟨l3,e2,h⟩:=zA h;obtain ⟨z4,z5,e3,h⟩:=xI h;obtain ⟨c,e4,h⟩:=zA h;obtain ⟨m,e5,h⟩:=zA h;apply J;clear J;exact ⟨cp,wd,c,m,by rw [yV e0,zZ e1,xG e2,e3,zJ e4,zJ e5],h⟩
noncomputable def rep(form:Nat)(c:UInt8)(many:Nat):List UInt8 :=
 if form=0\/many < 2 then List.replicate many c else if (jJ form c many).length < many then jJ form c many else List.replicate many c
noncomputable def spRep:xM:=fun args σ Q=>qF args fun z0 z1 z2=>zB (kU z0) fun cp=>zB (zL z1) fun c=>zB (zL z2) fun m =>
  ∃ kp form ps,(CapsIn σ cp kp form ps/\c∈codesI/\0<=m/\m<=1000)/\∀ ps',yH ps'->Q (.bytes (rep form (UInt8.ofNat c.toNat) m.toNat)) (σ.set kp (yO form ps'))
theorem spRep_of{args:List V}{σ:List O}{Q:V->List O->Prop}(hh:spRep args σ Q):∃ cp c m,args=[.loc cp,.int c,.int m] /\
  (∃ kp form ps,(CapsIn σ cp kp form ps/\c∈codesI/\0<=m/\m<=1000)/\∀ ps',yH ps'->Q (.bytes (rep form (UInt8.ofNat c.toNat) m.toNat)) (σ.set kp (yO form ps'))):=by
 apply gk;intro J;obtain ⟨z0,z1,z2,rfl,h⟩:=xT hh;obtain ⟨cp,e0,h⟩:=zA h;obtain ⟨c,e1,h⟩:=zA h;obtain ⟨m,e2,h⟩:=zA h;apply J;clear J;exact ⟨cp,c,m,by rw [yV e0,zJ e1,zJ e2],h⟩
noncomputable def jV(st:V)(ks vs:List V):List O:=[.inst 405 1,.attrs xF [.loc 2,.loc 4],.inst 470 3,.attrs xB (yW st),.dict ks vs]
end Mine
end
section
set_option tactic.hygienic false
set_option maxRecDepth 1000000
namespace Mine
noncomputable abbrev T416:Tabs:=jH { specs:=[(328,spExp),(349,spNoDel)] }
noncomputable abbrev T388:Tabs:=jH { specs:=[(416,spFil)] }
noncomputable abbrev T444:Tabs:=jH { specs:=[(388,spTold)],unroll:=[413] }
theorem r416_n(c m:Int)(P:V->Prop):wpF T416 60 416 [.none,.lst [.int c,.int m]] [] (fun v _=>P v)=(P V.none):=by kernel_rfl
theorem r416_b(b:List UInt8)(c m:Int)(P:V->Prop):wpF T416 60 416 [.bytes b,.lst [.int c,.int m]] [] (fun v _=>P v)=(∃ j,(1<=j/\j<=4/\b=yI j/\33<=c/\c<=126/\2<=m/\m<=1000)/\((full j (UInt8.ofNat c.toNat) m.toNat).length<=100000/\noDel (full j (UInt8.ofNat c.toNat) m.toNat))/\P (V.bytes (yQ (full j (UInt8.ofNat c.toNat) m.toNat)))):=by kernel_rfl
theorem r388_0(c m:Int)(ks vs:List V)(P:V->List O->Prop):wpF T388 80 388 [.loc 0,.bytes jN,.tup [.int c,.int m]] (jV (.dct [] []) ks vs) P=(@zB (Option Nat) (yL ks (V.tup [V.bytes jN,V.tup [V.int c,V.int m]])) fun val=>ifB (!val.isSome) (chk (decide (ks.length < 10000)) (@zB (Option Nat) (yL ks (V.tup [V.bytes jN,V.tup [V.int c,V.int m]])) fun val=>@zB (List V×List V) (qC ((jV (V.dct [] []) ks vs++[]++[]).set 4 (putK ks vs (V.tup [V.bytes jN,V.tup [V.int c,V.int m]]) V.none val)) (V.loc 4)) fun val_1=>@zB (Option Nat) (yL val_1.1 (V.tup [V.bytes jN,V.tup [V.int c,V.int m]])) fun val_2=>@zB Nat val_2 fun val_3=>@zB V val_1.2[val_3]? fun val_4=>P val_4 [O.inst 405 1,O.attrs ["info", "kept"] [V.loc 2,V.loc 4],O.inst 470 3,O.attrs ["names", "booleans", "numbers", "strings", "more", "uses"] [V.lst [V.bytes [120]],V.dct [] [],V.dct [] [],V.dct [] [],V.dct [] [],V.lst []],putK ks vs (V.tup [V.bytes jN,V.tup [V.int c,V.int m]]) V.none val])) (@zB (Option Nat) (yL ks (V.tup [V.bytes jN,V.tup [V.int c,V.int m]])) fun val=>@zB Nat val fun val=>@zB V vs[val]? fun val=>P val [O.inst 405 1,O.attrs ["info", "kept"] [V.loc 2,V.loc 4],O.inst 470 3,O.attrs ["names", "booleans", "numbers", "strings", "more", "uses"] [V.lst [V.bytes [120]],V.dct [] [],V.dct [] [],V.dct [] [],V.dct [] [],V.lst []],O.dict ks vs])):=by kernel_rfl
theorem r388_b(b:List UInt8)(c m:Int)(ks vs:List V)(P:V->List O->Prop):wpF T388 80 388 [.loc 0,.bytes jN,.tup [.int c,.int m]] (jV (.dct [.bytes jN] [.bytes b]) ks vs) P=(@zB (Option Nat) (yL ks (V.tup [V.bytes jN,V.tup [V.int c,V.int m]])) fun val=>ifB (!val.isSome) (∃ j,(1<=j/\j<=4/\b=yI j/\c∈codesI/\2<=m/\m<=1000)/\chk (decide (ks.length < 10000)) (@zB (Option Nat) (yL ks (V.tup [V.bytes jN,V.tup [V.int c,V.int m]])) fun val=>@zB (List V×List V) (qC ((jV (V.dct [V.bytes jN] [V.bytes b]) ks vs++[]++[]).set 4 (putK ks vs (V.tup [V.bytes jN,V.tup [V.int c,V.int m]]) (V.bytes (jJ j (UInt8.ofNat c.toNat) m.toNat)) val)) (V.loc 4)) fun val_1=>@zB (Option Nat) (yL val_1.1 (V.tup [V.bytes jN,V.tup [V.int c,V.int m]])) fun val_2=>@zB Nat val_2 fun val_3=>@zB V val_1.2[val_3]? fun val_4=>P val_4 [O.inst 405 1,O.attrs ["info", "kept"] [V.loc 2,V.loc 4],O.inst 470 3,O.attrs ["names", "booleans", "numbers", "strings", "more", "uses"] [V.lst [V.bytes [120]],V.dct [] [],V.dct [] [],V.dct [V.bytes jN] [V.bytes b],V.dct [] [],V.lst []],putK ks vs (V.tup [V.bytes jN,V.tup [V.int c,V.int m]]) (V.bytes (jJ j (UInt8.ofNat c.toNat) m.toNat)) val])) (@zB (Option Nat) (yL ks (V.tup [V.bytes jN,V.tup [V.int c,V.int m]])) fun val=>@zB Nat val fun val=>@zB V vs[val]? fun val=>P val [O.inst 405 1,O.attrs ["info", "kept"] [V.loc 2,V.loc 4],O.inst 470 3,O.attrs ["names", "booleans", "numbers", "strings", "more", "uses"] [V.lst [V.bytes [120]],V.dct [] [],V.dct [] [],V.dct [V.bytes jN] [V.bytes b],V.dct [] [],V.lst []],O.dict ks vs])):=by kernel_rfl
theorem r444(st:V)(c m:Int)(ks vs:List V)(P:V->List O->Prop):wpF T444 80 444 [.loc 0,.int c,.int m] (jV st ks vs) P=(@zB (List UInt8) (jD [V.int c]) fun val=>chk (decide (val.length<=big)) (chk (decide (val.length≠0/\val.length<=16/\0<=m/\m<=1000000)) (ifB (decide (m < 2)) (P (V.bytes (List.replicate m.toNat val).flatten) [O.inst 405 1,O.attrs ["info", "kept"] [V.loc 2,V.loc 4],O.inst 470 3,O.attrs ["names", "booleans", "numbers", "strings", "more", "uses"] [V.lst [V.bytes [120]],V.dct [] [],V.dct [] [],st,V.dct [] [],V.lst []],O.dict ks vs]) (∃ kp form ps,([114,101,112]=jN/\CapsIn (jV st ks vs++[]) 0 kp form ps/\c∈codesI/\2<=m/\m<=1000)/\∀ (ps':List (Int×Int)),yH ps'->xO { names:=(zQ "cheapest" [] (yN 36)).scope.names,cells:=cellsFrom ((jV st ks vs++[]).set kp (yO form ps')).length (zQ "cheapest" [] (yN 36)).scope.names [],lam:=none } [("octets",V.bytes (List.replicate m.toNat val).flatten)]=true/\chk (decide ((List.replicate m.toNat val).flatten.length<=big)) (xO { names:=(zQ "cheapest" [] (yN 36)).scope.names,cells:=cellsFrom ((jV st ks vs++[]).set kp (yO form ps')).length (zQ "cheapest" [] (yN 36)).scope.names [],lam:=none } [("octets",kH form c m)]=true/\ifB (isNone (kH form c m)) (chk (decide ((List.replicate m.toNat val).flatten.length<=big)) (P (V.bytes (List.replicate m.toNat val).flatten) ((jV st ks vs++[]).set kp (yO form ps')++[]++[]++[]++[]++[]))) (@zB Nat (lenOf ((jV st ks vs++[]).set kp (yO form ps')++[]++[]++[]++[]) (kH form c m)) fun val_1=>chk (decide (val_1<=big)) (chk (decide ((List.replicate m.toNat val).flatten.length<=big)) (ifB (if 0=0 then decide ((↑val_1:Int) < (↑(List.replicate m.toNat val).flatten.length:Int)) else decide (0 < 0)) (P (kH form c m) ((jV st ks vs++[]).set kp (yO form ps')++[]++[]++[]++[]++[])) (P (V.bytes (List.replicate m.toNat val).flatten) ((jV st ks vs++[]).set kp (yO form ps')++[]++[]++[]++[]++[])))))))))):=by kernel_rfl
end Mine
end
section
namespace Mine
theorem digs_mem{n:Nat}{d:UInt8}(h:d∈zF n):48<=d.toNat/\d.toNat<=57:=by
 induction n using Nat.strongRecOn with
 | ind n ih =>
  rw [qW] at h;split at h
  ·rw [List.mem_singleton] at h;subst h;refine rwp UInt8.toNat_ofNat' ?_;lia
  ·rcases List.mem_append.mp h with h | h
   ·exact ih (n / 10) (by lia) h
   ·rw [List.mem_singleton] at h;subst h;refine rwp UInt8.toNat_ofNat' ?_;lia
noncomputable def NoPair:List UInt8->Prop
 | []=>True
 | [_]=>True
 | a::b::r=>(a=36->b≠60)/\NoPair (b::r)
theorem noPair_at:∀ {l:List UInt8} {i:Nat},NoPair l->l[i]?=some 36->l[i+1]?=some 60->False
 | [],i,_,h,_=>by simp at h
 | [a],0,_,_,h=>by simp at h
 | [a],i+1,_,h,_=>by simp at h
 | a::b::r,0,h,h1,h2=>by
  simp at h1 h2;exact h.1 h1 h2
 | a::b::r,i+1,h,h1,h2=>noPair_at (l:=b::r) (i:=i) h.2 (by simpa using h1) (by simpa using h2)
theorem jZ(n:Nat){t:List UInt8}(ht:NoPair t)(h:∀ x,t.head?=some x->x≠60):∀ {l:List UInt8},(∀ d∈l,48<=d.toNat/\d.toNat<=57)->NoPair (l++t)/\∀ x,(l++t).head?=some x->x≠60:=by
 intro zv;induction zv with
 | nil =>
  intro _;exact ⟨ht,h⟩
 | cons a l ih =>
  intro hl;obtain ⟨h1,h2⟩:=ih fun d q=>hl d (.tail _ q);have ha:=hl a (.head _);refine ⟨?_,fun x e=>?_⟩
  ·cases hlt:l++t with
   | nil=>refine rwp List.cons_append ?_;refine rwp hlt ?_;trivial
   | cons y r =>
    refine rwp List.cons_append ?_;refine rwp hlt ?_;refine ⟨fun e=>?_,by refine rwp hlt.symm ?_;exact h1⟩;subst e;exact absurd ha.1 (by decide)
  ·simp at e;subst e;intro e;subst e;exact absurd ha.2 (by decide)
theorem xH{a:UInt8}{t:List UInt8}(ht:NoPair t)(h:∀ x,t.head?=some x->x≠60):NoPair (a::t):=by
 induction t using List.casesOn with
 | nil=>trivial
 | cons b r=>exact ⟨fun _=>h b rfl,ht⟩
theorem cut_two{b:List UInt8}{i:Nat}{x y:UInt8}(h:cut b (some (i:Int)) (some ((i:Int)+2))=[x,y]):b[i]?=some x/\b[i+1]?=some y:=by
 unfold cut vB at h;simp only at h;rw [if_neg (by simp_all),if_neg (by lia)] at h;have e0:∀ k:Nat,((b.take (min ((i:Int)+2).toNat b.length)).drop (min (i:Int).toNat b.length))[k]?=[x,y][k]?:=fun k=>by rw [h]
 have hl:=congrArg List.length h;rw [List.length_drop,List.length_take] at hl;simp only [List.length_cons,List.length_nil] at hl;have q0:=e0 0;have q1:=e0 1;rw [List.getElem?_drop,List.getElem?_take,if_pos (by simp_all)] at q0;rw [List.getElem?_drop,List.getElem?_take,if_pos (by simp_all)] at q1;have hi:min (i:Int).toNat b.length=i:=by lia
 rw [hi] at q0 q1;exact ⟨q0,q1⟩
theorem full_del(j:Nat)(c:UInt8)(n:Nat):noDel (full j c n)/\yQ (full j c n)=jJ j c n:=by
 have dg:=fun n=>fun d (q:d∈zF n)=>digs_mem q;have last:∀ (l:List UInt8) (x:UInt8),x≠62->hasDel (l++[x])=false:=fun l x hx=>by
  refine decide_eq_false fun ⟨h1,h2⟩=>hx ?_;have hl:(l++[x]).length=l.length+1:=by simp
  have e:((l++[x]).drop ((l++[x]).length - 4))[3]?=some 62:=by rw [h2];rfl
  rw [List.getElem?_drop,hl,show l.length+1 - 4+3=l.length by simp_all] at e;simpa using e
 have simple:∀ (l:List UInt8) (x:UInt8),x≠62->NoPair (l++[x])->noDel (l++[x])/\yQ (l++[x])=l++[x]:=fun l x hx hp=>by
  have hd:=last l x hx;refine ⟨fun i _ e=>?_,by unfold yQ;rw [hd]⟩;obtain ⟨h1,h2⟩:=cut_two e;exact noPair_at hp h1 h2
 unfold full jJ;split
 ·refine simple ([c,27,91]++zF (n - 1)) 98 (by decide) ?_;obtain ⟨h1,h2⟩:=jZ 0 (t:=[98]) trivial (by simp) (dg (n - 1));simp only [List.cons_append,List.nil_append,List.append_assoc];exact xH (xH (xH h1 h2) (by simp)) (by simp)
 ·refine simple ([27,91]++zF n++[59]++zF c.toNat) 114 (by decide) ?_;obtain ⟨h1,h2⟩:=jZ 0 (t:=[114]) trivial (by simp) (dg c.toNat);obtain ⟨h3,h4⟩:=jZ 0 (t:=59::(zF c.toNat++[114])) (xH h1 h2) (by simp) (dg n);simp only [List.cons_append,List.nil_append,List.append_assoc];exact xH (xH h3 h4) (by simp)
 ·have hp:NoPair ([27,c]++zF n++[33]):=by
   obtain ⟨h1,h2⟩:=jZ 0 (t:=[33]) trivial (by simp) (dg n);simp only [List.cons_append,List.nil_append,List.append_assoc];exact ⟨fun e=>absurd e (by decide),xH h1 h2⟩
  have e:[27,c]++zF n++[33,36,60,53,62]=([27,c]++zF n++[33])++[36,60,53,62]:=by simp
  rw [e];have hd:hasDel (([27,c]++zF n++[33])++[36,60,53,62])=true:=by
   refine decide_eq_true ⟨by simp,?_⟩;rw [List.length_append,show [(36:UInt8),60,53,62].length=4 from rfl,Nat.add_sub_cancel,List.drop_left]
  have hpre:yQ (([27,c]++zF n++[33])++[36,60,53,62])=[27,c]++zF n++[33]:=by
   unfold yQ;rw [hd];show List.take _ _=_
   rw [List.length_append,show [(36:UInt8),60,53,62].length=4 from rfl,Nat.add_sub_cancel,List.take_left]
  refine ⟨fun i hi e=>?_,hpre⟩;rw [hpre] at hi;obtain ⟨h1,h2⟩:=cut_two e;rw [List.getElem?_append_left hi] at h1;by_cases hi2:i+1 < ([27,c]++zF n++[33]).length
  ·rw [List.getElem?_append_left hi2] at h2;exact noPair_at hp h1 h2
  ·have:i=([27,c]++zF n).length:=by simp at hi hi2 ⊢;lia
   subst this;rw [List.getElem?_append_right (Nat.le_refl _)] at h1;simp at h1
 ·rename_i h1' h2' h3'
  try (split <;> first | exact absurd rfl h1' | exact absurd rfl h2' | exact absurd rfl h3' | skip)
  refine simple ([82,c]++zF n) 46 (by decide) ?_;obtain ⟨h1,h2⟩:=jZ 0 (t:=[46]) trivial (by simp) (dg n);simp only [List.cons_append,List.nil_append,List.append_assoc];exact ⟨fun e=>absurd e (by decide),xH h1 h2⟩
section
variable{prog:Program}{w:World}{K:Frag}{mb:Str->Option Value}(B:vE prog w K mb)
include B
theorem ok416:SpecOk prog w K mb 250 416 spFil :=
 xU (R':=205) fun args σ Q h=>by
  obtain ⟨c,m,⟨rfl,h⟩ | ⟨b,rfl,h⟩⟩:=spFil_of h
  ·skip
   refine ⟨⟨trivial,⟨trivial,trivial,trivial⟩,trivial⟩,T416,60,B _ _ (zS (ok328 B) (by exact Nat.le_add_left _ _) (zS (ok349 B) (by exact Nat.le_add_left _ _) yK)),by simp_all,?_⟩;refine rwp (r416_n c m fun v=>Clo 0 v/\Q v σ) ?_;exact ⟨trivial,h⟩
  ·apply gk;intro J;obtain ⟨j,⟨j1,j4,rfl,hc,m0,m1⟩,q⟩:=h;apply J;clear J;refine ⟨⟨trivial,⟨trivial,trivial,trivial⟩,trivial⟩,T416,60,B _ _ (zS (ok328 B) (by lia) (zS (ok349 B) (by lia) yK)),by lia,?_⟩;refine rwp (r416_b (yI j) c m fun v=>Clo 0 v/\Q v σ) ?_;have c0:33<=c/\c<=126:=by
    simp only [codesI,List.mem_cons,List.not_mem_nil,or_false] at hc;lia
   apply gk;intro J;obtain ⟨f1,f2⟩:=full_del j (UInt8.ofNat c.toNat) m.toNat;apply J;clear J;have hl:(full j (UInt8.ofNat c.toNat) m.toNat).length<=100000:=by
    have lm:=yG m.toNat 9 (by grind only);have lm1:=yG (m.toNat - 1) 9 (by grind only);have lc:=yG (c.toNat%256) 9 (by grind only);unfold full;split <;> simp <;> lia
   refine ⟨j,⟨j1,j4,rfl,c0.1,c0.2,m0,m1⟩,⟨hl,f1⟩,trivial,?_⟩;refine rwp f2 ?_;exact q
end
end Mine
end
section
set_option tactic.hygienic false
namespace Mine
theorem eq_kep(q p:Int×Int):eqV (xJ q) (xJ p)=some (decide (q=p)) :=
 (eqV_key (x:=jN) (y:=jN) (is:=[q.1,q.2]) (js:=[p.1,p.2])).trans (congrArg some (by simp [Prod.ext_iff]))
theorem key_kep(p:Int×Int):keyV (xJ p)=true:=rfl
theorem findK_cons{p q:Int×Int}{l:List V}:yL (xJ q::l) (xJ p)=(yL l (xJ p)).bind (fK (decide (q=p))):=by
 show ((eqV (xJ q) (xJ p)).bind _)=_
 rw [eq_kep];rfl
theorem findK_kep(p:Int×Int){ps:List (Int×Int)}:ps.Nodup->(p∉ps/\yL (ps.map xJ) (xJ p)=some none)\/∃ j,yL (ps.map xJ) (xJ p)=some (some j)/\ps[j]?=some p:=by
 induction ps with
 | nil=>exact fun _=>.inl ⟨List.not_mem_nil,rfl⟩
 | cons q ps ih =>
  intro h;have hn:=List.nodup_cons.mp h;refine rwp List.map_cons ?_;refine rwp findK_cons ?_;by_cases hq:q=p
  ·rcases ih hn.2 with ⟨_,h2⟩ | ⟨j,_,h2⟩
   ·refine rwp h2 ?_;refine rwp (decide_eq_true hq) ?_;exact .inr ⟨0,rfl,congrArg some hq⟩
   ·exact absurd (hq ▸ List.mem_of_getElem? h2) hn.1
  ·refine rwp (decide_eq_false hq) ?_;rcases ih hn.2 with ⟨h1,h2⟩ | ⟨j,h1,h2⟩
   ·refine rwp h2 ?_;exact .inl ⟨fun m=>(List.mem_cons.mp m).elim (fun e=>hq e.symm) h1,rfl⟩
   ·refine rwp h1 ?_;exact .inr ⟨j+1,rfl,h2⟩
theorem kepOk_len{ps:List (Int×Int)}(h:yH ps):ps.length < 10000:=by
 have hs:ps ⊆ codesI.flatMap fun c=>(List.range 1001).map fun (m:Nat)=>(c,(m:Int)):=fun p hp=>by
  obtain ⟨h1,h2,h3⟩:=h.2 p hp;refine List.mem_flatMap.mpr ⟨p.1,h1,List.mem_map.mpr ⟨p.2.toNat,List.mem_range.mpr (by lia),?_⟩⟩;rw [Int.toNat_of_nonneg (by lia)]
 have:=List.Nodup.length_le_of_subset h.1 hs;have hl:(codesI.flatMap fun c=>(List.range 1001).map fun (m:Nat)=>(c,(m:Int))).length=6006:=by
  simp [codesI,List.length_flatMap]
 lia
theorem kepOk_add{ps:List (Int×Int)}(h:yH ps){p:Int×Int}(hp:p∉ps)(h1:p.1∈codesI)(h2:2<=p.2)(h3:p.2<=1000):yH (ps++[p]):=by
 refine ⟨?_,fun q hq=>?_⟩
 ·refine List.nodup_append.mpr ⟨h.1,by simp,fun a ha b hb=>?_⟩;rw [List.mem_singleton] at hb;subst hb;intro e;subst e;exact hp ha
 ·rcases List.mem_append.mp hq with hq | hq
  ·exact h.2 q hq
  ·rw [List.mem_singleton] at hq;subst hq;exact ⟨h1,h2,h3⟩
theorem kepK_clo:∀ ps:List (Int×Int),yR 0 (ps.map xJ)
 | []=>trivial
 | _::ps=>⟨show Clo 0 (.tup _) from ⟨trivial,⟨trivial,trivial,trivial⟩,trivial⟩,kepK_clo ps⟩
theorem told_clo(k form:Nat)(c m:Int):Clo k (kH form c m):=by unfold kH;split <;> trivial
theorem kepV_clo(form:Nat):∀ ps:List (Int×Int),yR 0 (ps.map (kR form))
 | []=>trivial
 | p::ps=>⟨told_clo 0 form p.1 p.2,kepV_clo form ps⟩
theorem str_clo(form:Nat):Clo 0 (xY form):=by
 unfold xY;split
 ·exact ⟨trivial,trivial⟩
 ·exact ⟨⟨trivial,trivial⟩,⟨trivial,trivial⟩⟩
mutual
theorem clo_up{k:Nat}:∀ v,Clo 0 v->Clo k v
 | .loc _,h=>absurd h (Nat.not_lt_zero _)
 | .tup vs,h=>xP vs h
 | .lst vs,h=>xP vs h
 | .obj _ _ vs,h=>xP vs h
 | .dct ks vs,h=>⟨xP ks h.1,xP vs h.2⟩
 | .int _,_ | .bytes _,_ | .str _,_ | .bool _,_ | .none,_ | .barr _,_ | .rng _,_ | .ref _,_ | .bi _,_ | .ty _,_=>trivial
theorem xP{k:Nat}:∀ vs,yR 0 vs->yR k vs
 | [],_=>trivial
 | v::vs,h=>⟨clo_up v h.1,xP vs h.2⟩
end
theorem caps_clo{form:Nat}{ps:List (Int×Int)}{j:Nat}{X:O}(h:(jV (xY form) (ps.map xJ) (ps.map (kR form)))[j]?=some X):CloO 5 X:=by
 match j,h with
 | 0,h=>cases h;exact Nat.lt_of_sub_eq_succ rfl
 | 1,h=>cases h;exact ⟨by show 2 < 5;exact Nat.le_add_left _ _,by show 4 < 5;exact Nat.lt_succ_self _,trivial⟩
 | 2,h=>cases h;exact Nat.lt_of_sub_eq_succ rfl
 | 3,h=>cases h;exact ⟨⟨trivial,trivial⟩,⟨trivial,trivial⟩,⟨trivial,trivial⟩,clo_up _ (str_clo form),⟨trivial,trivial⟩,trivial,trivial⟩
 | 4,h=>cases h;exact ⟨xP _ (kepK_clo ps),xP _ (kepV_clo form ps)⟩
 | n+5,h=>simp [jV] at h
theorem caps_ren{cp ca inf ia kp form:Nat}{ps:List (Int×Int)}:(jV (xY form) (ps.map xJ) (ps.map (kR form))).map (renO [cp,ca,inf,ia,kp]) =
  [.inst 405 ca,.attrs xF [.loc inf,.loc kp],.inst 470 ia,.attrs xB (yW (xY form)),yO form ps]:=by
 have e1:=yZ [cp,ca,inf,ia,kp] _ (kepK_clo ps);have e2:=yZ [cp,ca,inf,ia,kp] _ (kepV_clo form ps);have e3:=ren_clo [cp,ca,inf,ia,kp] _ (str_clo form);simp only [jV,List.map_cons,List.map_nil,renO,xZ,yW,e1,e2,e3,yO];rfl
theorem caps_lend{σ:List O}{cp ca inf ia kp form:Nat}{ps:List (Int×Int)}(h0:σ[cp]?=some (.inst 405 ca))(h1:σ[ca]?=some (.attrs xF [.loc inf,.loc kp]))
  (h2:σ[inf]?=some (.inst 470 ia)) (h3:σ[ia]?=some (.attrs xB (yW (xY form)))) (h4:σ[kp]?=some (yO form ps)) :
  (∀ i∈[cp,ca,inf,ia,kp],i < σ.length)/\∀ (j:Nat) (X:O),(jV (xY form) (ps.map xJ) (ps.map (kR form)))[j]?=some X->CloO 5 X/\σ[[cp,ca,inf,ia,kp].getD j 0]?=some (renO [cp,ca,inf,ia,kp] X):=by
 refine ⟨fun i hi=>?_,fun j X hX=>⟨caps_clo hX,?_⟩⟩
 ·simp only [List.mem_cons,List.not_mem_nil,or_false] at hi;rcases hi with rfl | rfl | rfl | rfl | rfl
  ·exact (List.getElem?_eq_some_iff.mp h0).1
  ·exact (List.getElem?_eq_some_iff.mp h1).1
  ·exact (List.getElem?_eq_some_iff.mp h2).1
  ·exact (List.getElem?_eq_some_iff.mp h3).1
  ·exact (List.getElem?_eq_some_iff.mp h4).1
 ·have e:=congrArg (·[j]?) (caps_ren (cp:=cp) (ca:=ca) (inf:=inf) (ia:=ia) (kp:=kp) (form:=form) (ps:=ps));simp only [List.getElem?_map,hX,Option.map_some] at e;refine rwp e ?_
  match j with
  | 0=>exact h0
  | 1=>exact h1
  | 2=>exact h2
  | 3=>exact h3
  | 4=>exact h4
  | n+5=>simp [jV] at hX
theorem set_same{σ:List O}{i:Nat}{X:O}(h:σ[i]?=some X):σ.set i X=σ:=by
 obtain ⟨h1,h2⟩:=List.getElem?_eq_some_iff.mp h;rw [<- h2,List.set_getElem_self]
theorem caps_back{σ:List O}{cp ca inf ia kp form:Nat}{ps ps':List (Int×Int)}(h0:σ[cp]?=some (.inst 405 ca))(h1:σ[ca]?=some (.attrs xF [.loc inf,.loc kp]))
  (h2:σ[inf]?=some (.inst 470 ia)) (h3:σ[ia]?=some (.attrs xB (yW (xY form)))) {Q:V->List O->Prop} {v:V} (hv:Frz 5 (jV (xY form) (ps'.map xJ) (ps'.map (kR form))) v v) (hc:Clo 0 v)
  (q:Q v (σ.set kp (yO form ps'))) {σ':List O} (e:σ'=jV (xY form) (ps'.map xJ) (ps'.map (kR form))):Post [cp,ca,inf,ia,kp] σ Q v σ':=by
 subst e;refine ⟨v,hv,fun j X _ h=>caps_clo h,?_⟩;rw [ren_clo _ _ hc];have e:=caps_ren (cp:=cp) (ca:=ca) (inf:=inf) (ia:=ia) (kp:=kp) (form:=form) (ps:=ps');have e2:putS [cp,ca,inf,ia,kp] σ [cp,ca,inf,ia,kp] ((jV (xY form) (ps'.map xJ) (ps'.map (kR form))).take 5)=σ.set kp (yO form ps'):=by
  simp only [jV,List.map_cons,List.map_nil,List.cons.injEq,and_true] at e;apply gk;intro J;obtain ⟨e0,e1,e2,e3,e4⟩:=e;apply J;clear J;simp only [jV,List.take_succ_cons,List.take_zero,putS];rw [e0,set_same h0,e1,set_same h1,e2,set_same h2,e3,set_same h3,e4]
 show Q v (putS _ _ _ _)
 rw [show ([cp,ca,inf,ia,kp]:List Nat).length=5 from rfl,e2];exact q
theorem findK_app(p:Int×Int){ps:List (Int×Int)}:p∉ps->yL (ps.map xJ++[xJ p]) (xJ p)=some (some ps.length):=by
 induction ps with
 | nil =>
  intro _;refine rwp findK_cons ?_;refine rwp (decide_eq_true rfl) ?_;rfl
 | cons q ps ih =>
  intro h;refine rwp List.map_cons ?_;refine rwp List.cons_append ?_;refine rwp findK_cons ?_;refine rwp (decide_eq_false (fun e:q=p=>h (e ▸ .head _))) ?_;refine rwp (ih fun m=>h (.tail _ m)) ?_;rfl
section
variable{prog:Program}{w:World}{K:Frag}{mb:Str->Option Value}(B:vE prog w K mb)
include B
theorem ok388:SpecOk prog w K mb 300 388 spTold :=
 spec_of (R':=250) fun args σ Q h=>by
  replace h:=spTold_of h;apply gk;intro J;obtain ⟨cp,wd,c,m,rfl,h⟩:=h;apply J;clear J
  ·apply gk;intro J;obtain ⟨kp,form,ps,⟨rfl,⟨ca,inf,ia,hnd,h0,h1,h2,h3,h4,hf,hk⟩,hc,m0,m1⟩,q⟩:=h;obtain ⟨hlt,hst⟩:=caps_lend h0 h1 h2 h3 h4;apply J;clear J;refine ⟨T388,80,[cp,ca,inf,ia,kp],[.loc 0,.bytes jN,.tup [.int c,.int m]],jV (xY form) (ps.map xJ) (ps.map (kR form)),B _ _ (zS (ok416 B) (by exact Nat.le_refl _) yK),by simp_all,hnd,hlt,?_,?_,rfl,hst,?_⟩
   ·exact ⟨by show 0 < 5;exact Nat.le_add_left _ _,trivial,⟨trivial,trivial,trivial⟩,trivial⟩
   ·rfl
   have key:V.tup [V.bytes jN,V.tup [V.int c,V.int m]]=xJ (c,m):=rfl;have fin:∀ ps',yH ps'->∀ σ',σ'=jV (xY form) (ps'.map xJ) (ps'.map (kR form))->Post [cp,ca,inf,ia,kp] σ Q (kH form c m) σ':=fun ps' hk' σ' e=>by
    refine caps_back h0 h1 h2 h3 (ps:=ps) (ps':=ps') ?_ (told_clo 0 form c m) (q ps' hk') e;unfold kH;split <;> exact ⟨trivial,rfl⟩
   have found:∀ j,ps[j]?=some (c,m)->(ps.map (kR form))[j]?=some (kH form c m):=fun j hj=>by
    refine rwp List.getElem?_map ?_;refine rwp hj ?_;rfl
   have hlast:(ps.map (kR form)++[kH form c m])[ps.length]?=some (kH form c m):=by
    refine rwp (List.getElem?_append_right (by simp)) ?_;simp
   induction form using Nat.casesAuxOn with
   | zero =>
    refine Eq.mpr (r388_0 c m (ps.map xJ) (ps.map (kR 0)) (Post [cp,ca,inf,ia,kp] σ Q)) ?_;refine rwp key ?_;rcases findK_kep (c,m) hk.1 with ⟨hn,e⟩ | ⟨j,e,hj⟩
    ·refine zD e (qB rfl (xD (decide_eq_true (by rw [List.length_map];exact kepOk_len hk)) (zD e ?_)));refine zD (a:=(ps.map xJ++[xJ (c,m)],ps.map (kR 0)++[kH 0 c m])) rfl ?_;refine zD (findK_app (c,m) hn) (zD rfl (zD hlast ?_));refine fin (ps++[(c,m)]) (kepOk_add hk hn hc m0 m1) _ ?_;refine rwp List.map_append ?_;refine rwp List.map_append ?_;rfl
    ·refine zD e (xC rfl (zD e (zD rfl (zD (found j hj) (fin ps hk _ rfl)))))
   | succ n =>
    refine Eq.mpr (r388_b (yI (n+1)) c m (ps.map xJ) (ps.map (kR (n+1))) (Post [cp,ca,inf,ia,kp] σ Q)) ?_;refine rwp key ?_;rcases findK_kep (c,m) hk.1 with ⟨hn,e⟩ | ⟨j,e,hj⟩
    ·refine zD e (qB rfl ⟨n+1,⟨by exact Nat.le_add_left _ _,by simp [*],rfl,hc,m0,m1⟩,xD (decide_eq_true (by rw [List.length_map];exact kepOk_len hk)) (zD e ?_)⟩);refine zD (a:=(ps.map xJ++[xJ (c,m)],ps.map (kR (n+1))++[kH (n+1) c m])) rfl ?_;refine zD (findK_app (c,m) hn) (zD rfl (zD hlast ?_));refine fin (ps++[(c,m)]) (kepOk_add hk hn hc m0 m1) _ ?_;refine rwp List.map_append ?_;refine rwp List.map_append ?_;rfl
    ·refine zD e (xC rfl (zD e (zD rfl (zD (found j hj) (fin ps hk _ rfl)))))
end
end Mine
end
section
set_option tactic.hygienic false
namespace Mine
theorem seqB_len(j:Nat)(c:UInt8)(n:Nat)(h:n<=1000):(jJ j c n).length<=40:=by
 have lm:=yG n 9 (by lia);have lm1:=yG (n - 1) 9 (by lia);have lc:=yG c.toNat 9 (by have:=c.toNat_lt;lia);unfold jJ;split <;> simp <;> lia
theorem kO(n:Nat)(x:UInt8):(List.replicate n [x]).flatten=List.replicate n x:=by
 induction n with
 | zero=>rfl
 | succ n ih=>refine rwp List.replicate_succ ?_;refine rwp List.flatten_cons ?_;refine rwp ih ?_;rfl
section
variable{prog:Program}{w:World}{K:Frag}{mb:Str->Option Value}(B:vE prog w K mb)
include B
theorem ok444:SpecOk prog w K mb 350 444 spRep :=
 spec_of (R':=305) fun args σ Q h=>by
  replace h:=spRep_of h;apply gk;intro J;obtain ⟨cp,c,m,rfl,h⟩:=h;apply J;clear J
  ·apply gk;intro J;obtain ⟨kp,form,ps,⟨⟨ca,inf,ia,hnd,h0,h1,h2,h3,h4,hf,hk⟩,hc,m0,m1⟩,q⟩:=h;obtain ⟨hlt,hst⟩:=caps_lend h0 h1 h2 h3 h4;apply J;clear J;refine ⟨T444,80,[cp,ca,inf,ia,kp],[.loc 0,.int c,.int m],jV (xY form) (ps.map xJ) (ps.map (kR form)),B _ _ (zS (ok388 B) (by exact Nat.le_add_left _ _) yK),by simp_all,hnd,hlt,?_,?_,rfl,hst,?_⟩
   ·exact ⟨by show 0 < 5;exact Nat.le_add_left _ _,trivial,trivial,trivial⟩
   ·rfl
   refine Eq.mpr (r444 (xY form) c m (ps.map xJ) (ps.map (kR form)) (Post [cp,ca,inf,ia,kp] σ Q)) ?_;have c0:33<=c/\c<=126:=by
    simp only [codesI,List.mem_cons,List.not_mem_nil,or_false] at hc;lia
   have fin:∀ b:List UInt8,b=rep form (UInt8.ofNat c.toNat) m.toNat->∀ ps',yH ps'->∀ σ',σ'=jV (xY form) (ps'.map xJ) (ps'.map (kR form))->Post [cp,ca,inf,ia,kp] σ Q (.bytes b) σ':=fun b hb ps' hk' σ' e=>by
    subst hb;exact caps_back h0 h1 h2 h3 (v:=.bytes _) (ps:=ps) (ps':=ps') ⟨trivial,rfl⟩ trivial (q ps' hk') e
   have hi:=int_1 (c:=c) (by lia) (by lia);have hb:big=16777216:=rfl;refine zD hi (xD (decide_eq_true (by simp;exact Nat.le_add_left _ _)) (xD (decide_eq_true ⟨by simp,by simp,by simp_all,by lia⟩) ?_));rw [kO];refine zX (fun hm=>?_) fun hm=>?_
   ·skip
    exact fin _ (by unfold rep;rw [if_pos (.inr (by simp_all))]) ps hk _ rfl
   ·skip
    refine ⟨4,form,ps,⟨rfl,⟨1,2,3,by decide,rfl,rfl,rfl,rfl,rfl,hf,hk⟩,hc,by simp_all,by simp_all⟩,fun ps' hk'=>⟨by kernel_rfl,xD (decide_eq_true (by simp;lia)) ⟨by kernel_rfl,?_⟩⟩⟩;induction form using Nat.casesAuxOn with
    | zero =>
     refine qB rfl (xD (decide_eq_true (by simp;lia)) ?_);exact fin _ (by unfold rep;rw [if_pos (.inl rfl)]) ps' hk' _ rfl
    | succ n =>
     have hl:=seqB_len (n+1) (UInt8.ofNat c.toNat) m.toNat (by simp_all);refine xC rfl (zD (a:=(jJ (n+1) (UInt8.ofNat c.toNat) m.toNat).length) rfl (xD (decide_eq_true (by lia)) (xD (decide_eq_true (by simp;lia)) ?_)));rw [if_pos rfl];refine zX (fun hm=>?_) fun hm=>?_
     ·skip
      rw [List.length_replicate] at hm;exact fin _ (by unfold rep;rw [if_neg (by simp [*]),if_pos (by lia)]) ps' hk' _ rfl
     ·skip
      rw [List.length_replicate] at hm;exact fin _ (by unfold rep;rw [if_neg (by lia),if_neg (by lia)]) ps' hk' _ rfl
end
end Mine
end
section
set_option tactic.hygienic false
set_option maxRecDepth 1000000
namespace Mine
noncomputable def zH:List V:=[.str "cells",.str "mixed",.str "turn"]
noncomputable abbrev T0:Tabs:=jH {}
theorem r507a(l:List V)(x t b:Int)(P:Fl->Loc->List O->Prop):zI T0 59 (zG 507 2) ((zE 507).take 2) [("deck",.loc 0),("below",.int b)] [.dict zH [.loc 1,.int x,.int t],.list l] P=(chk (decide ((-18446744073709551616:Int) < 71993*(t+1)/\71993*(t+1) < 18446744073709551616\/(-18446744073709551616:Int) < t+1/\t+1 < 18446744073709551616)) (P Fl.next [("deck",V.loc 0),("below",V.int b),("figure",V.int (x+71993*(t+1)*(t+1)))] [O.dict [V.str "cells",V.str "mixed",V.str "turn"] [V.loc 1,V.int x,V.int (t+1)],O.list l])):=by kernel_rfl
theorem r507b(l:List V)(x t b f:Int)(P:Bool->List O->Prop):wpT T0 55 (zG 507 2) (whT (nth 2 (zE 507))) [("deck",.loc 0),("below",.int b),("figure",.int f)] [.dict zH [.loc 1,.int x,.int t],.list l] P=(chk (zV 9 l&&zV 9 []) (@zB Bool (eqL l []) fun val=>P (!val) [O.dict [V.str "cells",V.str "mixed",V.str "turn"] [V.loc 1,V.int x,V.int t],O.list l])):=by kernel_rfl
theorem r507c(l:List V)(x t b f:Int)(P:Fl->Loc->List O->Prop):zI T0 55 (zG 507 2) ((whB (nth 2 (zE 507))).take 1) [("deck",.loc 0),("below",.int b),("figure",.int f)] [.dict zH [.loc 1,.int x,.int t],.list l] P=(@zB (List V×V) (popOf l) fun val=>chk (decide (val.1.length < 1000000)) (P Fl.next [("deck",V.loc 0),("below",V.int b),("figure",V.int f),("cell",val.2)] [O.dict [V.str "cells",V.str "mixed",V.str "turn"] [V.loc 1,V.int x,V.int t],O.list val.1])):=by kernel_rfl
theorem r507d(l:List V)(x t b f c:Int)(P:Fl->Loc->List O->Prop):zI T0 54 (zG 507 2) ((whB (nth 2 (zE 507))).drop 1) [("deck",.loc 0),("below",.int b),("figure",.int f),("cell",.int c)] [.dict zH [.loc 1,.int x,.int t],.list l] P=(ifB (decide (c>=1000000)) (chk (decide (0 < b/\b < 1000000000)) (chk (decide (l.length < 1000000)) (chk (decide (0 < b)) (P (Fl.ret (V.int (c%b))) [("deck",V.loc 0),("below",V.int b),("figure",V.int f),("cell",V.int c)] [O.dict [V.str "cells",V.str "mixed",V.str "turn"] [V.loc 1,V.int x,V.int t],O.list (l++[V.int (c / b)])])))) (P Fl.next [("deck",V.loc 0),("below",V.int b),("figure",V.int (f+c%2147483563)),("cell",V.int c)] [O.dict [V.str "cells",V.str "mixed",V.str "turn"] [V.loc 1,V.int x,V.int t],O.list l])):=by kernel_rfl
theorem r507e(l:List V)(x t b f:Int)(m:Loc)(P:Fl->Loc->List O->Prop):zI T0 56 (zG 507 2) ((zE 507).drop 3) (("deck",.loc 0)::("below",.int b)::("figure",.int f)::m) [.dict zH [.loc 1,.int x,.int t],.list l] P=(chk (decide ((-18446744073709551616:Int) < f%(2147483629:Int)/\f%(2147483629:Int) < (18446744073709551616:Int)\/(-18446744073709551616:Int) < (40692:Int)/\(40692:Int) < (18446744073709551616:Int))) (chk (decide ((-18446744073709551616:Int) < f%(2147483629:Int)*(40692:Int)%(2147483647:Int)/\f%(2147483629:Int)*(40692:Int)%(2147483647:Int) < (18446744073709551616:Int)\/(-18446744073709551616:Int) < f%(2147483629:Int)*(40692:Int)%(2147483647:Int)/\f%(2147483629:Int)*(40692:Int)%(2147483647:Int) < (18446744073709551616:Int))) (chk (decide ((-18446744073709551616:Int) < (f%(2147483629:Int)*(40692:Int)%(2147483647:Int)*(f%(2147483629:Int)*(40692:Int)%(2147483647:Int))+(40039:Int))%(2147483587:Int)/\(f%(2147483629:Int)*(40692:Int)%(2147483647:Int)*(f%(2147483629:Int)*(40692:Int)%(2147483647:Int))+(40039:Int))%(2147483587:Int) < (18446744073709551616:Int)\/(-18446744073709551616:Int) < (39373:Int)/\(39373:Int) < (18446744073709551616:Int))) (chk (decide ((0:Int) < b)) (P (Fl.ret (V.int ((f%(2147483629:Int)*(40692:Int)%(2147483647:Int)*(f%(2147483629:Int)*(40692:Int)%(2147483647:Int))+(40039:Int))%(2147483587:Int)*(39373:Int)%(2147483579:Int) / (64:Int)%b))) (("deck",V.loc 0)::("below",V.int b)::("figure",V.int ((f%(2147483629:Int)*(40692:Int)%(2147483647:Int)*(f%(2147483629:Int)*(40692:Int)%(2147483647:Int))+(40039:Int))%(2147483587:Int)))::m) [O.dict [V.str "cells",V.str "mixed",V.str "turn"] [V.loc 1,V.int x,V.int t],O.list l]))))):=by kernel_rfl
end Mine
end
section
set_option tactic.hygienic false
set_option backward.match.sparseCases false
namespace Mine
noncomputable def isIf:Stmt->Bool
 | .If _ _ _ _=>true
 | _=>false
noncomputable def yA(vs:List V):Prop:=∃ cs:List Int,vs=cs.map .int/\cs.length < 1000
noncomputable def deckP(σ:List O)(d:Nat)(P:List V->Nat->Int->Int->List V->Prop):Prop:=zB (σ[d]?.bind oDct) fun kv=>qF kv.2 fun y0 y1 y2=>zB (kU y0) fun l=>zB (zL y1) fun x=>zB (zL y2) fun t=>zB (σ[l]?.bind oLst) fun vs=>P kv.1 l x t vs
theorem deckP_of{σ:List O}{d:Nat}{P:List V->Nat->Int->Int->List V->Prop}(hh:deckP σ d P):∃ ks l x t vs,σ[d]?=some (.dict ks [.loc l,.int x,.int t])/\σ[l]?=some (.list vs)/\P ks l x t vs:=by
 apply gk;intro J;obtain ⟨kv,e,h⟩:=zA hh;obtain ⟨y0,y1,y2,e1,h⟩:=xT h;obtain ⟨l,e2,h⟩:=zA h;obtain ⟨x,e3,h⟩:=zA h;obtain ⟨t,e4,h⟩:=zA h;obtain ⟨vs,e5,h⟩:=zA h;apply J;clear J;refine ⟨kv.1,l,x,t,vs,xQ e fun o q k=>?_,xQ e5 fun o q k=>q.trans (congrArg some (oLst_of k)),h⟩;rw [q,oDct_of k,e1,yV e2,zJ e3,zJ e4]
noncomputable def spDraw:xM:=fun args σ Q=>twoA args fun z0 z1=>zB (kU z0) fun d=>zB (zL z1) fun b=>deckP σ d fun ks l x t vs=>(ks=zH/\d≠l/\0<=t/\t < 1000000/\yA vs/\0 < b/\b < 1000000)/\∀ v vs',(0<=v/\v < b/\yA vs')->Q (.int v) ((σ.set d (.dict ks [.loc l,.int x,.int (t+1)])).set l (.list vs'))
theorem if_in{T:Tabs}{F:Fra}{m:Loc}{σ:List O}{Q:Fl->Loc->List O->Prop}{st:Stmt}{N:Nat}(n:Nat)(hN:N=n+1)(hw:isIf st=true)(h:wpT T n F (whT st) m σ fun c σ1=>ifB c (zI T n F (whB st) m σ1 Q) (zI T n F (whO st) m σ1 Q)):wpS T N F st m σ Q:=by
 subst hN;induction st using PySem.Stmt.casesOn with
 | If t b o p=>exact h
 | _=>first | exact zK hw | exact fne hw | cases hw
theorem nil_in{T:Tabs}{F:Fra}{m:Loc}{σ:List O}{Q:Fl->Loc->List O->Prop}{l:List Stmt}{n:Nat}(hl:l=[])(h:Q .next m σ):zI T (n+1) F l m σ Q:=by
 subst hl;exact h
theorem ints_clo{vs:List V}(h:yA vs)(k:Nat):yR k vs:=by
 obtain ⟨cs,rfl,_⟩:=h;induction cs with
 | nil=>trivial
 | cons c cs ih=>exact ⟨trivial,ih (by simp at *;exact Nat.le_of_succ_le (by assumption))⟩
theorem plainV_int{n:Nat}{i:Int}:qT n (.int i)=true:=by induction n using Nat.casesAuxOn <;> rfl
theorem xS(cs:List Int)(n:Nat):zV n (cs.map .int)=true:=by
 induction cs with
 | nil=>rfl
 | cons c cs ih=>exact Bool.and_eq_true_iff.mpr ⟨plainV_int,ih⟩
theorem pop_ints:∀ (cs:List Int) (c:Int),popOf ((c::cs).map .int)=some (((c::cs).dropLast).map .int,.int ((c::cs).getLastD 0)):=by
 intro zv;induction zv with
 | nil =>
  intro c;exact rfl
 | cons d cs ih =>
  intro c;have:=ih d;show (popOf ((d::cs).map .int)).map _=_
  refine rwp this ?_;rfl
theorem eq_ints(cs:List Int):eqL (cs.map .int) []=some (decide (cs=[])):=eqL_int (js:=[])
theorem draw_back{σ:List O}{d l:Nat}{ks:List V}{x t t':Int}{vs':List V}{Q:V->List O->Prop}{v:Int}(hd:σ[d]?=some (.dict ks [.loc l,.int x,.int t]))(hne:d≠l)(hk:yR 0 ks)(hc:yR 0 vs')
  (q:Q (.int v) ((σ.set d (.dict ks [.loc l,.int x,.int t'])).set l (.list vs'))):Post [d,l] σ Q (.int v) [.dict ks [.loc 1,.int x,.int t'],.list vs']:=by
 refine ⟨.int v,⟨trivial,rfl⟩,fun j X hj h=>?_,?_⟩
 ·match j,hj,h with
  | 0,_,h=>cases h;exact ⟨xP _ hk,by show 1 < 2;exact Nat.lt_succ_self _,trivial,trivial,trivial⟩
  | 1,_,h=>cases h;exact xP _ hc
 ·show Q (ren _ (.int v)) (putS [d,l] σ [d,l] [.dict ks [.loc 1,.int x,.int t'],.list vs'])
  simp only [putS,renO,yZ _ _ hk,yZ _ _ hc];exact q
section
variable{prog:Program}{w:World}{K:Frag}{mb:Str->Option Value}(B:vE prog w K mb)
include B
theorem ok507:SpecOk prog w K mb 30 507 spDraw :=
 spec_of (R':=0) fun args σ Q h=>by
  apply gk;intro J;obtain ⟨z0,z1,rfl,h⟩:=xI h;obtain ⟨d,e0,h⟩:=zA h;obtain ⟨b,e1,h⟩:=zA h;apply J;clear J;refine rwp (yV e0) ?_;refine rwp (zJ e1) ?_;apply gk;intro J;obtain ⟨ks,l,x,t,vs,hd,hl,h⟩:=deckP_of h;obtain ⟨⟨rfl,hne,t0,t1,hi,b0,b1⟩,q⟩:=h;obtain ⟨cs,rfl,hc⟩:=hi;apply J;clear J;have hk:yR 0 zH:=⟨trivial,trivial,trivial,trivial⟩
  have hcl:=fun k=>ints_clo (vs:=cs.map .int) ⟨cs,rfl,hc⟩ k;refine ⟨T0,60,[d,l],[.loc 0,.int b],[.dict zH [.loc 1,.int x,.int t],.list (cs.map .int)],B _ _ yK,by exact Nat.lt_succ_self _,by simp [hne],?_,?_,rfl,rfl,?_,?_⟩
  ·intro i hi;simp only [List.mem_cons,List.not_mem_nil,or_false] at hi;rcases hi with rfl | rfl
   ·exact (List.getElem?_eq_some_iff.mp hd).1
   ·exact (List.getElem?_eq_some_iff.mp hl).1
  ·exact ⟨by show 0 < 2;exact Nat.le_succ _,trivial,trivial⟩
  ·intro j X hX
   match j,hX with
   | 0,hX=>cases hX;exact ⟨⟨xP _ hk,by show 1 < 2;lia,trivial,trivial,trivial⟩,hd⟩
   | 1,hX=>cases hX;exact ⟨hcl 2,by simp only [renO,yZ _ _ (hcl 0)];exact hl⟩
  refine fn_in 59 2 rfl rfl (m:=[("deck",.loc 0),("below",.int b)]) (σ1:=[.dict zH [.loc 1,.int x,.int t],.list (cs.map .int)]) (by kernel_rfl) (by kernel_rfl) (by kernel_rfl) ?_;refine jC 2 3 59 56 rfl rfl (by decide) (by decide +kernel) ?_;rw [r507a];refine zC (.inl ⟨by lia,by lia⟩) (zR ?_);refine if_in 55 rfl (by kernel_rfl) ?_;refine rwp (show ([V.str (Str.ofString "cells"),V.str (Str.ofString "mixed"),V.str (Str.ofString "turn")]:List V)=zH from rfl) ?_;rw [r507b];refine xD (by rw [xS];rfl) (zD (eq_ints cs) ?_);have fin:∀ (v:Int) (vs':List V),0<=v->v < b->yA vs'->Post [d,l] σ Q (.int v) [.dict zH [.loc 1,.int x,.int (t+1)],.list vs']:=fun v vs' h0 h1 h2 =>
   draw_back hd hne hk (ints_clo h2 0) (q v vs' ⟨h0,h1,h2⟩)
  have rest:∀ (m:Loc) (f:Int) (vs':List V),yA vs'->zI T0 56 (zG 507 2) ((zE 507).drop 3) (("deck",.loc 0)::("below",.int b)::("figure",.int f)::m) [.dict zH [.loc 1,.int x,.int (t+1)],.list vs'] (retK (Post [d,l] σ Q)):=fun m f vs' hv=>by
   rw [r507e];refine zC (.inr ⟨by simp_all,by simp_all⟩) (zC (.inl ⟨by grind only,by grind only⟩) (zC (.inr ⟨by simp_all,by simp_all⟩) (zC b0 ?_)));exact fin _ _ (Int.emod_nonneg _ (by lia)) (Int.emod_lt_of_pos _ b0) hv
  induction cs using List.casesOn with
  | nil=>exact xC rfl (nil_in rfl (zR (rest [] _ _ ⟨[],rfl,hc⟩)))
  | cons c cs =>
   refine qB rfl ?_;refine cut_at (i:=1) (n:=53) rfl (by decide +kernel) ?_;refine rwp (show ([V.str (Str.ofString "cells"),V.str (Str.ofString "mixed"),V.str (Str.ofString "turn")]:List V)=zH from rfl) ?_;rw [r507c];have hl':((c::cs).dropLast).length+1=(c::cs).length:=by simp
   refine zD (pop_ints cs c) (xD (decide_eq_true (by rw [List.length_map];lia)) (zR ?_));refine rwp (show ([V.str (Str.ofString "cells"),V.str (Str.ofString "mixed"),V.str (Str.ofString "turn")]:List V)=zH from rfl) ?_;rw [r507d];refine zX (fun _=>?_) fun _=>?_
   ·refine zC ⟨b0,by lia⟩ (zC (by rw [List.length_map];lia) (zC b0 ?_));refine fin _ _ (Int.emod_nonneg _ (by lia)) (Int.emod_lt_of_pos _ b0) ⟨(c::cs).dropLast++[(c::cs).getLastD 0 / b],by simp,?_⟩;refine rwp List.length_append ?_;simp only [List.length_cons,List.length_nil] at *
    simp_all
   ·exact zR (rest _ _ _ ⟨(c::cs).dropLast,rfl,by lia⟩)
end
end Mine
end
section
set_option tactic.hygienic false
set_option maxRecDepth 1000000
namespace Mine
theorem r512(n:Int)(P:Fl->Loc->List O->Prop):zI T0 59 (zG 512 0) (zE 512) [("number",.int n)] [] P=(chk (decide ((0:Int)<=n/\n < (10000000000000000000000000000000000000000:Int))) ((List.map (fun (c:Nat)=>V.str { cps:=#[c] }) (Str.ofString (toString n)).cps.toList).length<=(1000000:Nat)/\∃ (f:V->V),wpK T0 (54:Nat) (zP (zG (512:Addr) (0:Nat)) { kind:=ScopeKind.function,names:=[(Str.ofString ".0",NameKind.local),(Str.ofString "sign",NameKind.local),(Str.ofString "ord",NameKind.globalImplicit)],isGenerator:=false,isCoroutine:=false }) ((Expr.Name (Str.ofString "ord") { line:=(473:Nat),col:=(18:Nat),endLine:=(473:Nat),endCol:=(21:Nat) }).Call [Expr.Name (Str.ofString "sign") { line:=(473:Nat),col:=(22:Nat),endLine:=(473:Nat),endCol:=(26:Nat) }] [] { line:=(473:Nat),col:=(18:Nat),endLine:=(473:Nat),endCol:=(27:Nat) }) (Expr.Name (Str.ofString "sign") { line:=(473:Nat),col:=(32:Nat),endLine:=(473:Nat),endCol:=(36:Nat) }) (List.map (fun (c:Nat)=>V.str { cps:=#[c] }) (Str.ofString (toString n)).cps.toList) [] f/\@zB (List UInt8) (jD (List.map f (List.map (fun (c:Nat)=>V.str { cps:=#[c] }) (Str.ofString (toString n)).cps.toList))) fun (val:List UInt8)=>chk (decide (val.length<=big)) (P (Fl.ret (V.bytes val)) [(Str.ofString "number",V.int n)] []))):=by kernel_rfl
theorem r512k(c:Nat)(P:V->List O->Prop):wpE T0 53 (zP (zG (512:Addr) (0:Nat)) { kind:=ScopeKind.function,names:=[(Str.ofString ".0",NameKind.local),(Str.ofString "sign",NameKind.local),(Str.ofString "ord",NameKind.globalImplicit)],isGenerator:=false,isCoroutine:=false }) ((Expr.Name (Str.ofString "ord") { line:=(473:Nat),col:=(18:Nat),endLine:=(473:Nat),endCol:=(21:Nat) }).Call [Expr.Name (Str.ofString "sign") { line:=(473:Nat),col:=(22:Nat),endLine:=(473:Nat),endCol:=(26:Nat) }] [] { line:=(473:Nat),col:=(18:Nat),endLine:=(473:Nat),endCol:=(27:Nat) }) [(Str.ofString "sign",V.str ⟨#[c]⟩)] [] P=P (V.int c) []:=by kernel_rfl
end Mine
end
section
set_option tactic.hygienic false
set_option backward.match.sparseCases false
namespace Mine
theorem dig_char:∀ m,m < 10->(Nat.digitChar m).toNat=48+m:=by decide
theorem digs_sgn(m:Nat):(Nat.toDigits 10 m).map Char.toNat=(zF m).map UInt8.toNat:=by
 induction m using Nat.strongRecOn with
 | ind m ih =>
  rw [qW];split
  ·rename_i h
   refine rwp (Nat.toDigits_of_lt_base h) ?_;refine rwp List.map_cons ?_;refine rwp (dig_char m h) ?_;refine rwp List.map_cons ?_;refine rwp UInt8.toNat_ofNat' ?_;refine rwp (Nat.mod_eq_of_lt (by lia)) ?_;rfl
  ·have e:=Nat.toDigits_append_toDigits (b:=10) (n:=m / 10) (d:=m%10) (by exact Nat.le_add_left _ _) (by simp_all) (by grind only);rw [Nat.div_add_mod] at e;refine rwp e.symm ?_;refine rwp List.map_append ?_;refine rwp (ih (m / 10) (by lia)) ?_;refine rwp List.map_append ?_;refine rwp (Nat.toDigits_of_lt_base (by lia)) ?_;refine rwp List.map_cons ?_;refine rwp (dig_char _ (by lia)) ?_;refine rwp List.map_cons ?_;refine rwp UInt8.toNat_ofNat' ?_;refine rwp (Nat.mod_eq_of_lt (a:=48+m%10) (by grind only)) ?_;rfl
theorem sgn_digs(m:Nat):(Str.ofString (toString (m:Int))).cps.toList=(zF m).map UInt8.toNat:=by
 rw [Str.ofString_eq_toList,<- digs_sgn];show (List.map Char.toNat (String.ofList (Nat.toDigits 10 m)).toList).toArray.toList=_
 rw [String.toList_ofList]
theorem ints_back(l:List UInt8):jD (l.map fun c=>V.int (c.toNat:Nat))=some l:=by
 induction l with
 | nil=>rfl
 | cons c l ih =>
  have h:=c.toNat_lt;show (match decide (0<=(c.toNat:Int)/\(c.toNat:Int) < 256) with | true=>(jD (l.map fun c:UInt8=>V.int (c.toNat:Nat))).map (UInt8.ofNat (c.toNat:Int).toNat::·) | false=>none)=_
  rw [decide_eq_true ⟨Int.natCast_nonneg _,Int.ofNat_lt.mpr h⟩,ih];show some (UInt8.ofNat (Int.toNat (c.toNat:Nat))::l)=_
  rw [Int.toNat_natCast,UInt8.ofNat_toNat]
noncomputable def spFigs:xM:=fun args σ Q=>jY args fun z0=>zB (zL z0) fun n =>
  (0<=n/\n < 1000000000)/\Q (.bytes (zF n.toNat)) σ
theorem spFigs_of{args:List V}{σ:List O}{Q:V->List O->Prop}(hh:spFigs args σ Q):∃ n,args=[.int n] /\
  ((0<=n/\n < 1000000000)/\Q (.bytes (zF n.toNat)) σ):=by
 obtain ⟨z0,rfl,h⟩:=yC hh;obtain ⟨n,e0,h⟩:=zA h;exact ⟨n,by rw [zJ e0],h⟩
section
variable{prog:Program}{w:World}{K:Frag}{mb:Str->Option Value}(B:vE prog w K mb)
include B
theorem ok512:SpecOk prog w K mb 30 512 spFigs :=
 xU (R':=0) fun args σ Q h=>by
  replace h:=spFigs_of h;obtain ⟨n,rfl,h⟩:=h
  ·obtain ⟨⟨h0,h1⟩,q⟩:=h;refine ⟨⟨trivial,trivial⟩,T0,60,B _ _ yK,by exact Nat.lt_succ_self _,?_⟩;refine fn_in 59 0 rfl rfl (m:=[("number",.int n)]) (σ1:=[]) (by kernel_rfl) (by kernel_rfl) (by kernel_rfl) ?_;refine Eq.mpr (r512 n _) ?_;refine zC (c:=(0:Int)<=n/\n < 10000000000000000000000000000000000000000) ⟨by simp_all,by lia⟩ ?_;obtain ⟨m,rfl⟩:=Int.eq_ofNat_of_zero_le h0;have hl:=yG m 9 (by lia);refine ⟨?_,fun v=>match v with
    | .str s=>.int ((s.cps[0]?.getD 0:Nat):Int)
    | v=>v,fun v hv=>?_,?_⟩
   ·rw [List.length_map,sgn_digs,List.length_map];lia
   ·obtain ⟨c,_,rfl⟩:=List.mem_map.mp hv;refine qL (a:=[(Str.ofString "sign",.str ⟨#[c]⟩)]) ?_ ⟨?_,?_⟩
    ·kernel_rfl
    ·kernel_rfl
    ·exact Eq.mpr (r512k c fun u σ'=>u=.int c/\σ'=[]) ⟨rfl,rfl⟩
   ·rw [sgn_digs];refine rwp List.map_map ?_;refine rwp List.map_map ?_;refine zD (a:=zF m) (ints_back (zF m)) (zC (by have:big=16777216:=rfl;lia) ⟨trivial,?_⟩);exact q
end
end Mine
end
section
set_option tactic.hygienic false
set_option maxRecDepth 1000000
namespace Mine
theorem r437(c w p:Int)(r:List V)(P:V->List O->Prop):wpF T0 60 437 [.tup [.tup (.int c::r),.int w,.int p]] [] P=(ifB (decide (w=1)) (chk (decide ((V.int c::r).length<=big)) (ifB (decide ((↑(V.int c::r).length:Int)=1)) (ifB (decide (33<=c)) (P (V.bool (decide (c<=126))) []) (P (V.bool false) [])) (P (V.bool (decide ((↑(V.int c::r).length:Int)=1))) []))) (P (V.bool (decide (w=1))) [])):=by kernel_rfl
theorem r437n(w p:Int)(P:V->List O->Prop):wpF T0 60 437 [.tup [.tup [],.int w,.int p]] [] P=(ifB (decide (w=1)) (P (V.bool (decide ((↑0:Int)=1))) []) (P (V.bool (decide (w=1))) [])):=by kernel_rfl
theorem r545(c w p:Int)(r:List V)(P:V->List O->Prop):wpF T0 60 545 [.tup [.tup (.int c::r),.int w,.int p]] [] P=(ifB (decide (w=1)) (chk (decide ((V.int c::r).length<=big)) (ifB (decide ((↑(V.int c::r).length:Int)=1)) (ifB (decide (33<=c)) (P (V.bool (decide (c<=126))) []) (P (V.bool false) [])) (P (V.bool (decide ((↑(V.int c::r).length:Int)=1))) []))) (P (V.bool (decide (w=1))) [])):=by kernel_rfl
theorem r545n(w p:Int)(P:V->List O->Prop):wpF T0 60 545 [.tup [.tup [],.int w,.int p]] [] P=(ifB (decide (w=1)) (P (V.bool (decide ((↑0:Int)=1))) []) (P (V.bool (decide (w=1))) [])):=by kernel_rfl
end Mine
end
section
set_option tactic.hygienic false
set_option backward.match.sparseCases false
namespace Mine
structure Cell where
 cs:List Int
 w:Int
 p:Int
noncomputable def Cell.v(c:Cell):V:=.tup [.tup (c.cs.map .int),.int c.w,.int c.p]
noncomputable def Cell.plain(c:Cell):Bool:=match c.cs with
 | [n]=>decide (c.w=1/\33<=n/\n<=126)
 | _=>false
noncomputable def Cell.Ok(c:Cell):Prop:=c.cs.length<=2/\(∀ n∈c.cs,0<=n/\n < 1000000)/\(c.plain=true->∃ n,c.cs=[n]/\n∈codesI)
noncomputable def jW:V->Bool
 | .tup [.tup [.int n],.int w,_]=>decide (w=1/\33<=n/\n<=126)
 | _=>false
theorem kK(c:Cell):jW c.v=c.plain:=by
 obtain ⟨cs,w,p⟩:=c
 match cs with
 | []=>rfl
 | [_]=>rfl
 | _::_::_=>rfl
theorem clo_ints:∀ (cs:List Int) (k:Nat),yR k (cs.map .int)
 | [],_=>trivial
 | _::cs,k=>⟨trivial,clo_ints cs k⟩
theorem clo_cell(c:Cell)(k:Nat):Clo k c.v:=⟨clo_ints _ _,trivial,trivial,trivial⟩
theorem kL:∀ (l:List Cell) (k:Nat),yR k (l.map Cell.v)
 | [],_=>trivial
 | c::l,k=>⟨clo_cell c k,kL l k⟩
noncomputable def spPl:xM:=fun args σ Q=>jY args fun v=>(∃ c:Cell,v=c.v/\c.Ok)/\Q (.bool (jW v)) σ
theorem pl_two(w n:Int)(r:List V)(hr:r≠[])(h:r.length<=2){P:V->List O->Prop}{σ:List O}{b:Bool}(hb:b=false)(q:P (.bool b) σ):(ifB (decide (w=(1:Int)))
 (chk (decide ((V.int n::r).length<=big))
  (ifB (decide ((↑(V.int n::r).length:Int)=(1:Int))) (ifB (decide ((33:Int)<=n)) (P (V.bool (decide (n<=(126:Int)))) σ) (P (V.bool false) σ))
   (P (V.bool (decide ((↑(V.int n::r).length:Int)=(1:Int)))) σ)))
 (P (V.bool (decide (w=(1:Int)))) σ)):=by
 subst hb;have hl:0 < r.length:=List.length_pos_iff.mpr hr;refine zX (fun _=>?_) fun hw=>?_
 ·refine zC (by have:big=16777216:=rfl;refine rwp List.length_cons ?_;lia) ?_;have e:decide ((↑(V.int n::r).length:Int)=(1:Int))=false:=decide_eq_false (by refine rwp List.length_cons ?_;simp +arith [*]);refine rwp e ?_;exact q
 ·refine rwp (decide_eq_false hw) ?_;exact q
theorem pl_one(w n:Int){P:V->List O->Prop}{σ:List O}(q:P (.bool (decide (w=1/\33<=n/\n<=126))) σ):(ifB (decide (w=(1:Int)))
 (chk (decide (([V.int n]:List V).length<=big))
  (ifB (decide ((↑([V.int n]:List V).length:Int)=(1:Int))) (ifB (decide ((33:Int)<=n)) (P (V.bool (decide (n<=(126:Int)))) σ) (P (V.bool false) σ))
   (P (V.bool (decide ((↑([V.int n]:List V).length:Int)=(1:Int)))) σ)))
 (P (V.bool (decide (w=(1:Int)))) σ)):=by
 refine zX (fun hw=>?_) fun hw=>?_
 ·refine xD (decide_eq_true (by have:big=16777216:=rfl;refine rwp List.length_singleton ?_;exact Nat.le_add_left _ _)) (qB rfl (zX (fun h3=>?_) fun h3=>?_))
  ·have e:decide (w=1/\33<=n/\n<=126)=decide (n<=126):=by rw [decide_eq_decide];simp_all
   refine rwp e.symm ?_;exact q
  ·have e:decide (w=1/\33<=n/\n<=126)=false:=decide_eq_false (by simp [*]);refine rwp e.symm ?_;exact q
 ·have e:decide (w=1/\33<=n/\n<=126)=false:=decide_eq_false (by simp_all);refine rwp (decide_eq_false hw) ?_;refine rwp e.symm ?_;exact q
section
variable{prog:Program}{w:World}{K:Frag}{mb:Str->Option Value}(B:vE prog w K mb)
include B
theorem ok437:SpecOk prog w K mb 30 437 spPl :=
 xU (R':=0) fun args σ Q h=>by
  apply gk;intro J;obtain ⟨z,rfl,h⟩:=yC h;apply J;clear J
  ·apply gk;intro J;obtain ⟨⟨⟨cs,w,p⟩,rfl,h1,h2,_⟩,q⟩:=h;apply J;clear J;refine ⟨⟨clo_cell _ _,trivial⟩,T0,60,B _ _ yK,by exact Nat.lt_succ_self _,?_⟩;rw [kK] at q
   match cs,h1,q with
   | [],_,q =>
    refine Eq.mpr (r437n w p fun v _=>Clo 0 v/\Q v σ) ?_;refine zX (fun hw=>⟨trivial,q⟩) fun hw=>?_;refine rwp (decide_eq_false hw) ?_;exact ⟨trivial,q⟩
   | [n],_,q =>
    refine Eq.mpr (r437 n w p [] fun v _=>Clo 0 v/\Q v σ) ?_;exact pl_one w n (σ:=[]) (P:=fun v _=>Clo 0 v/\Q v σ) ⟨trivial,q⟩
   | n::n2::r,h1,q =>
    refine Eq.mpr (r437 n w p ((n2::r).map .int) fun v _=>Clo 0 v/\Q v σ) ?_;exact pl_two w n (σ:=[]) _ (by simp) (by rw [List.length_map];exact Nat.le_of_succ_le h1) rfl (P:=fun v _=>Clo 0 v/\Q v σ) ⟨trivial,q⟩
theorem ok545:SpecOk prog w K mb 30 545 spPl :=
 xU (R':=0) fun args σ Q h=>by
  apply gk;intro J;obtain ⟨z,rfl,h⟩:=yC h;apply J;clear J
  ·apply gk;intro J;obtain ⟨⟨⟨cs,w,p⟩,rfl,h1,h2,_⟩,q⟩:=h;apply J;clear J;refine ⟨⟨clo_cell _ _,trivial⟩,T0,60,B _ _ yK,by lia,?_⟩;rw [kK] at q
   match cs,h1,q with
   | [],_,q =>
    refine Eq.mpr (r545n w p fun v _=>Clo 0 v/\Q v σ) ?_;refine zX (fun hw=>⟨trivial,q⟩) fun hw=>?_;refine rwp (decide_eq_false hw) ?_;exact ⟨trivial,q⟩
   | [n],_,q =>
    refine Eq.mpr (r545 n w p [] fun v _=>Clo 0 v/\Q v σ) ?_;exact pl_one w n (σ:=[]) (P:=fun v _=>Clo 0 v/\Q v σ) ⟨trivial,q⟩
   | n::n2::r,h1,q =>
    refine Eq.mpr (r545 n w p ((n2::r).map .int) fun v _=>Clo 0 v/\Q v σ) ?_;exact pl_two w n (σ:=[]) _ (by simp) (by rw [List.length_map];exact Nat.le_of_succ_le h1) rfl (P:=fun v _=>Clo 0 v/\Q v σ) ⟨trivial,q⟩
end
end Mine
end
section
set_option tactic.hygienic false
set_option maxRecDepth 1000000
namespace Mine
noncomputable abbrev T524:Tabs:=jH { specs:=[(512,spFigs)],unroll:=[483] }
noncomputable abbrev T519:Tabs:=jH { specs:=[(512,spFigs)] }
theorem r524_1(a:Int)(P:V->Prop):wpF T524 60 524 [.tup [.int a]] [] (fun v _=>P v)=([V.int a].length<=1000000/\xO (zP { names:=(zQ "_law_other" [] (yN 50)).scope.names,cells:=cellsFrom 0 (zQ "_law_other" [] (yN 50)).scope.names [],lam:=none } { kind:=ScopeKind.function,names:=[(".0",NameKind.local),("code",NameKind.local),("_law_figures",NameKind.globalImplicit)],isGenerator:=false,isCoroutine:=false }) [("code",V.int a)]=true/\(0<=a/\a < 1000000000)/\chk (decide ((yT [44] [zF a.toNat]).length<=big)) (chk (decide (1+(yT [44] [zF a.toNat]).length<=big)) (chk (decide (([123]++yT [44] [zF a.toNat]).length+1<=big)) (P (V.bytes ([123]++yT [44] [zF a.toNat]++[125])))))):=by kernel_rfl
theorem r524_2(a b:Int)(P:V->Prop):wpF T524 60 524 [.tup [.int a,.int b]] [] (fun v _=>P v)=([V.int a,V.int b].length<=1000000/\xO (zP { names:=(zQ "_law_other" [] (yN 50)).scope.names,cells:=cellsFrom 0 (zQ "_law_other" [] (yN 50)).scope.names [],lam:=none } { kind:=ScopeKind.function,names:=[(".0",NameKind.local),("code",NameKind.local),("_law_figures",NameKind.globalImplicit)],isGenerator:=false,isCoroutine:=false }) [("code",V.int a)]=true/\(0<=a/\a < 1000000000)/\xO (zP { names:=(zQ "_law_other" [] (yN 50)).scope.names,cells:=cellsFrom 0 (zQ "_law_other" [] (yN 50)).scope.names [],lam:=none } { kind:=ScopeKind.function,names:=[(".0",NameKind.local),("code",NameKind.local),("_law_figures",NameKind.globalImplicit)],isGenerator:=false,isCoroutine:=false }) [("code",V.int b)]=true/\(0<=b/\b < 1000000000)/\chk (decide ((yT [44] [zF a.toNat,zF b.toNat]).length<=big)) (chk (decide (1+(yT [44] [zF a.toNat,zF b.toNat]).length<=big)) (chk (decide (([123]++yT [44] [zF a.toNat,zF b.toNat]).length+1<=big)) (P (V.bytes ([123]++yT [44] [zF a.toNat,zF b.toNat]++[125])))))):=by kernel_rfl
theorem r519_0(c m:Int)(P:V->Prop):wpF T519 60 519 [.int 0,.int c,.int m] [] (fun v _=>P v)=(@zB (List UInt8) (jD [V.int c]) fun val=>chk (decide (val.length<=big)) ((0<=m/\m < 1000000000)/\chk (decide (val.length≠0/\val.length<=16/\0<=m/\m<=1000000)) (P (V.bytes (List.replicate m.toNat val).flatten)))):=by kernel_rfl
theorem r519_1(c m:Int)(P:V->Prop):wpF T519 60 519 [.int 1,.int c,.int m] [] (fun v _=>P v)=(@zB (List UInt8) (jD [V.int c]) fun val=>chk (decide (val.length<=big)) ((0<=m/\m < 1000000000)/\chk (decide (val.length≠0/\val.length<=16/\0<=m/\m<=1000000)) (ifB (decide (m < 2)) (P (V.bytes (List.replicate m.toNat val).flatten)) (chk (decide (val.length+2<=big)) ((0<=m - 1/\m - 1 < 1000000000)/\chk (decide ((val++[27,91]).length+(zF (m - 1).toNat).length<=big)) (chk (decide ((val++[27,91]++zF (m - 1).toNat).length+1<=big)) (chk (decide (2+(zF m.toNat).length<=big)) (chk (decide (([27,91]++zF m.toNat).length+1<=big)) ((0<=c/\c < 1000000000)/\chk (decide (([27,91]++zF m.toNat++[59]).length+(zF c.toNat).length<=big)) (chk (decide (([27,91]++zF m.toNat++[59]++zF c.toNat).length+1<=big)) (chk (decide (1+val.length<=big)) (chk (decide (([27]++val).length+(zF m.toNat).length<=big)) (chk (decide (([27]++val++zF m.toNat).length+1<=big)) (chk (decide (1+val.length<=big)) (chk (decide (([82]++val).length+(zF m.toNat).length<=big)) (chk (decide (([82]++val++zF m.toNat).length+1<=big)) (chk (decide ((val++[27,91]++zF (m - 1).toNat++[98]).length<=big)) (ifB (decide ((↑(val++[27,91]++zF (m - 1).toNat++[98]).length:Int) < m)) (P (V.bytes (val++[27,91]++zF (m - 1).toNat++[98]))) (P (V.bytes (List.replicate m.toNat val).flatten)))))))))))))))))))):=by kernel_rfl
theorem r519_2(c m:Int)(P:V->Prop):wpF T519 60 519 [.int 2,.int c,.int m] [] (fun v _=>P v)=(@zB (List UInt8) (jD [V.int c]) fun val=>chk (decide (val.length<=big)) ((0<=m/\m < 1000000000)/\chk (decide (val.length≠0/\val.length<=16/\0<=m/\m<=1000000)) (ifB (decide (m < 2)) (P (V.bytes (List.replicate m.toNat val).flatten)) (chk (decide (val.length+2<=big)) ((0<=m - 1/\m - 1 < 1000000000)/\chk (decide ((val++[27,91]).length+(zF (m - 1).toNat).length<=big)) (chk (decide ((val++[27,91]++zF (m - 1).toNat).length+1<=big)) (chk (decide (2+(zF m.toNat).length<=big)) (chk (decide (([27,91]++zF m.toNat).length+1<=big)) ((0<=c/\c < 1000000000)/\chk (decide (([27,91]++zF m.toNat++[59]).length+(zF c.toNat).length<=big)) (chk (decide (([27,91]++zF m.toNat++[59]++zF c.toNat).length+1<=big)) (chk (decide (1+val.length<=big)) (chk (decide (([27]++val).length+(zF m.toNat).length<=big)) (chk (decide (([27]++val++zF m.toNat).length+1<=big)) (chk (decide (1+val.length<=big)) (chk (decide (([82]++val).length+(zF m.toNat).length<=big)) (chk (decide (([82]++val++zF m.toNat).length+1<=big)) (chk (decide (([27,91]++zF m.toNat++[59]++zF c.toNat++[114]).length<=big)) (ifB (decide ((↑([27,91]++zF m.toNat++[59]++zF c.toNat++[114]).length:Int) < m)) (P (V.bytes ([27,91]++zF m.toNat++[59]++zF c.toNat++[114]))) (P (V.bytes (List.replicate m.toNat val).flatten)))))))))))))))))))):=by kernel_rfl
theorem r519_3(c m:Int)(P:V->Prop):wpF T519 60 519 [.int 3,.int c,.int m] [] (fun v _=>P v)=(@zB (List UInt8) (jD [V.int c]) fun val=>chk (decide (val.length<=big)) ((0<=m/\m < 1000000000)/\chk (decide (val.length≠0/\val.length<=16/\0<=m/\m<=1000000)) (ifB (decide (m < 2)) (P (V.bytes (List.replicate m.toNat val).flatten)) (chk (decide (val.length+2<=big)) ((0<=m - 1/\m - 1 < 1000000000)/\chk (decide ((val++[27,91]).length+(zF (m - 1).toNat).length<=big)) (chk (decide ((val++[27,91]++zF (m - 1).toNat).length+1<=big)) (chk (decide (2+(zF m.toNat).length<=big)) (chk (decide (([27,91]++zF m.toNat).length+1<=big)) ((0<=c/\c < 1000000000)/\chk (decide (([27,91]++zF m.toNat++[59]).length+(zF c.toNat).length<=big)) (chk (decide (([27,91]++zF m.toNat++[59]++zF c.toNat).length+1<=big)) (chk (decide (1+val.length<=big)) (chk (decide (([27]++val).length+(zF m.toNat).length<=big)) (chk (decide (([27]++val++zF m.toNat).length+1<=big)) (chk (decide (1+val.length<=big)) (chk (decide (([82]++val).length+(zF m.toNat).length<=big)) (chk (decide (([82]++val++zF m.toNat).length+1<=big)) (chk (decide (([27]++val++zF m.toNat++[33]).length<=big)) (ifB (decide ((↑([27]++val++zF m.toNat++[33]).length:Int) < m)) (P (V.bytes ([27]++val++zF m.toNat++[33]))) (P (V.bytes (List.replicate m.toNat val).flatten)))))))))))))))))))):=by kernel_rfl
theorem r519_4(c m:Int)(P:V->Prop):wpF T519 60 519 [.int 4,.int c,.int m] [] (fun v _=>P v)=(@zB (List UInt8) (jD [V.int c]) fun val=>chk (decide (val.length<=big)) ((0<=m/\m < 1000000000)/\chk (decide (val.length≠0/\val.length<=16/\0<=m/\m<=1000000)) (ifB (decide (m < 2)) (P (V.bytes (List.replicate m.toNat val).flatten)) (chk (decide (val.length+2<=big)) ((0<=m - 1/\m - 1 < 1000000000)/\chk (decide ((val++[27,91]).length+(zF (m - 1).toNat).length<=big)) (chk (decide ((val++[27,91]++zF (m - 1).toNat).length+1<=big)) (chk (decide (2+(zF m.toNat).length<=big)) (chk (decide (([27,91]++zF m.toNat).length+1<=big)) ((0<=c/\c < 1000000000)/\chk (decide (([27,91]++zF m.toNat++[59]).length+(zF c.toNat).length<=big)) (chk (decide (([27,91]++zF m.toNat++[59]++zF c.toNat).length+1<=big)) (chk (decide (1+val.length<=big)) (chk (decide (([27]++val).length+(zF m.toNat).length<=big)) (chk (decide (([27]++val++zF m.toNat).length+1<=big)) (chk (decide (1+val.length<=big)) (chk (decide (([82]++val).length+(zF m.toNat).length<=big)) (chk (decide (([82]++val++zF m.toNat).length+1<=big)) (chk (decide (([82]++val++zF m.toNat++[46]).length<=big)) (ifB (decide ((↑([82]++val++zF m.toNat++[46]).length:Int) < m)) (P (V.bytes ([82]++val++zF m.toNat++[46]))) (P (V.bytes (List.replicate m.toNat val).flatten)))))))))))))))))))):=by kernel_rfl
end Mine
end
section
set_option tactic.hygienic false
set_option maxHeartbeats 1000000
set_option backward.match.sparseCases false
namespace Mine
noncomputable def othB:List Int->List UInt8
 | [a]=>[123]++zF a.toNat++[125]
 | [a,b]=>[123]++(zF a.toNat++([44]++zF b.toNat))++[125]
 | _=>[]
noncomputable def spOth:xM:=fun args σ Q=>jY args fun z0=>zB (jO z0) fun vs =>
  ∃ cs:List Int,(vs=cs.map .int/\1<=cs.length/\cs.length<=2/\∀ n∈cs,0<=n/\n < 1000000)/\Q (.bytes (othB cs)) σ
theorem spOth_of{args:List V}{σ:List O}{Q:V->List O->Prop}(hh:spOth args σ Q):∃ vs,args=[.tup vs] /\
  (∃ cs:List Int,(vs=cs.map .int/\1<=cs.length/\cs.length<=2/\∀ n∈cs,0<=n/\n < 1000000)/\Q (.bytes (othB cs)) σ):=by
 obtain ⟨z0,rfl,h⟩:=yC hh;obtain ⟨vs,e0,h⟩:=zA h;exact ⟨vs,by rw [xG e0],h⟩
noncomputable def spRepd:xM:=fun args σ Q=>qF args fun z0 z1 z2=>zB (zL z0) fun f=>zB (zL z1) fun c=>zB (zL z2) fun m =>
  (0<=f/\f<=4/\c∈codesI/\0<=m/\m<=1000)/\Q (.bytes (rep f.toNat (UInt8.ofNat c.toNat) m.toNat)) σ
theorem spRepd_of{args:List V}{σ:List O}{Q:V->List O->Prop}(hh:spRepd args σ Q):∃ f c m,args=[.int f,.int c,.int m] /\
  ((0<=f/\f<=4/\c∈codesI/\0<=m/\m<=1000)/\Q (.bytes (rep f.toNat (UInt8.ofNat c.toNat) m.toNat)) σ):=by
 apply gk;intro J;obtain ⟨z0,z1,z2,rfl,h⟩:=xT hh;obtain ⟨f,e0,h⟩:=zA h;obtain ⟨c,e1,h⟩:=zA h;obtain ⟨m,e2,h⟩:=zA h;apply J;clear J;exact ⟨f,c,m,by rw [zJ e0,zJ e1,zJ e2],h⟩
theorem qI:big=16777216:=rfl
section
variable{prog:Program}{w:World}{K:Frag}{mb:Str->Option Value}(B:vE prog w K mb)
include B
theorem ok524:SpecOk prog w K mb 65 524 spOth :=
 xU (R':=30) fun args σ Q h=>by
  replace h:=spOth_of h;apply gk;intro J;obtain ⟨_,rfl,h⟩:=h;apply J;clear J
  ·apply gk;intro J;obtain ⟨cs,⟨rfl,h1,h2,h3⟩,q⟩:=h;apply J;clear J;refine ⟨⟨clo_ints _ _,trivial⟩,T524,60,B _ _ (zS (ok512 B) (by exact Nat.le_refl _) yK),by simp_all,?_⟩;have hb:=qI;rcases cs with _ | ⟨a,_ | ⟨b,_ | ⟨c,r⟩⟩⟩
   ·first | exact (nomatch h1) | exact absurd rfl h1 | simp at h1
   ·have ha:=h3 a (.head _);have la:=yG a.toNat 9 (by lia);refine Eq.mpr (r524_1 a fun v=>Clo 0 v/\Q v σ) ?_;have e:yT [(44:UInt8)] [zF a.toNat]=zF a.toNat:=by simp [yT]
    refine rwp e ?_;refine ⟨by simp,by kernel_rfl,⟨ha.1,by lia⟩,zC (by lia) (zC (by lia) (zC (by refine rwp List.length_append ?_;refine rwp List.length_singleton ?_;lia) ⟨trivial,q⟩))⟩
   ·have ha:=h3 a (.head _);have hb':=h3 b (.tail _ (.head _));have la:=yG a.toNat 9 (by lia);have lb:=yG b.toNat 9 (by lia);refine Eq.mpr (r524_2 a b fun v=>Clo 0 v/\Q v σ) ?_;have e:yT [(44:UInt8)] [zF a.toNat,zF b.toNat]=zF a.toNat++([44]++zF b.toNat):=by simp [yT]
    refine rwp e ?_;have l:(zF a.toNat++([44]++zF b.toNat)).length<=100:=by simp;lia
    refine ⟨by simp,by kernel_rfl,⟨ha.1,by lia⟩,by kernel_rfl,⟨hb'.1,by lia⟩,zC (by lia) (zC (by lia) (zC (by refine rwp List.length_append ?_;refine rwp List.length_singleton ?_;lia) ⟨trivial,q⟩))⟩
   ·first | exact (nomatch h2) | simp at h2
theorem ok519:SpecOk prog w K mb 65 519 spRepd :=
 xU (R':=30) fun args σ Q h=>by
  replace h:=spRepd_of h;apply gk;intro J;obtain ⟨f,c,m,rfl,h⟩:=h;apply J;clear J
  ·apply gk;intro J;obtain ⟨⟨f0,f4,hc,m0,m1⟩,q⟩:=h;apply J;clear J;refine ⟨⟨trivial,trivial,trivial,trivial⟩,T519,60,B _ _ (zS (ok512 B) (by lia) yK),by lia,?_⟩;have hb:=qI;have c0:33<=c/\c<=126:=by
    simp only [codesI,List.mem_cons,List.not_mem_nil,or_false] at hc;lia
   have hi:=int_1 (c:=c) (by lia) (by lia);have cn:(UInt8.ofNat c.toNat).toNat=c.toNat:=by rw [UInt8.toNat_ofNat',Nat.mod_eq_of_lt (by lia)]
   have mn:(m - 1).toNat=m.toNat - 1:=by simp_all
   have lm:=yG m.toNat 9 (by omega);have lm1:=yG (m - 1).toNat 9 (by lia);have lc:=yG c.toNat 9 (by lia);apply gk;intro J;obtain ⟨k,rfl⟩:=Int.eq_ofNat_of_zero_le f0;apply J;clear J;have hk:k<=4:=by lia
   rw [show ((k:Nat):Int).toNat=k from rfl] at q
   match k,hk,q with
   | 0,_,q =>
    refine Eq.mpr (r519_0 c m fun v=>Clo 0 v/\Q v σ) ?_;refine zD hi (zC (by simp only [List.length_singleton];exact Nat.le_add_left _ _) ⟨⟨m0,by lia⟩,zC ⟨by simp,by simp,m0,by lia⟩ ?_⟩);rw [kO];unfold rep at q;rw [if_pos (.inl rfl)] at q;exact ⟨trivial,q⟩
   | 1,_,q =>
    refine Eq.mpr (r519_1 c m fun v=>Clo 0 v/\Q v σ) ?_;refine zD hi (zC (by simp only [List.length_singleton];lia) ⟨⟨m0,by lia⟩,zC ⟨by simp,by simp,m0,by lia⟩ ?_⟩);rw [kO];unfold rep at q;refine zX (fun hm=>?_) fun hm=>?_
    ·rw [if_pos (.inr (by simp_all))] at q;exact ⟨trivial,q⟩
    rw [if_neg (by simp +arith [*])] at q
    repeat (first | refine zC (by (try simp only [List.length_append,List.length_cons,List.length_nil]);lia) ?_ | refine ⟨⟨by lia,by lia⟩,?_⟩)
    refine zX (fun hl=>?_) fun hl=>?_
    ·rw [if_pos (by unfold jJ;simp only [List.length_append,List.length_cons,List.length_nil,<- mn] at hl ⊢;simp_all)] at q;unfold jJ at q;rw [mn];exact ⟨trivial,q⟩
    ·rw [if_neg (by unfold jJ;simp only [List.length_append,List.length_cons,List.length_nil,<- mn] at hl ⊢;simp_all)] at q;exact ⟨trivial,q⟩
   | 2,_,q =>
    refine Eq.mpr (r519_2 c m fun v=>Clo 0 v/\Q v σ) ?_;refine zD hi (zC (by simp only [List.length_singleton];lia) ⟨⟨m0,by lia⟩,zC ⟨by simp,by simp,m0,by lia⟩ ?_⟩);rw [kO];unfold rep at q;refine zX (fun hm=>?_) fun hm=>?_
    ·rw [if_pos (.inr (by lia))] at q;exact ⟨trivial,q⟩
    rw [if_neg (by simp +arith [*])] at q
    repeat (first | refine zC (by (try simp only [List.length_append,List.length_cons,List.length_nil]);lia) ?_ | refine ⟨⟨by lia,by lia⟩,?_⟩)
    refine zX (fun hl=>?_) fun hl=>?_
    ·rw [if_pos (by unfold jJ;simp only [List.length_append,List.length_cons,List.length_nil,cn] at hl ⊢;simp_all)] at q;unfold jJ at q;rw [cn] at q;exact ⟨trivial,q⟩
    ·rw [if_neg (by unfold jJ;simp only [List.length_append,List.length_cons,List.length_nil,cn] at hl ⊢;simp_all)] at q;exact ⟨trivial,q⟩
   | 3,_,q =>
    refine Eq.mpr (r519_3 c m fun v=>Clo 0 v/\Q v σ) ?_;refine zD hi (zC (by simp only [List.length_singleton];lia) ⟨⟨m0,by lia⟩,zC ⟨by simp,by simp,m0,by lia⟩ ?_⟩);rw [kO];unfold rep at q;refine zX (fun hm=>?_) fun hm=>?_
    ·rw [if_pos (.inr (by lia))] at q;exact ⟨trivial,q⟩
    rw [if_neg (by simp +arith [*])] at q
    repeat (first | refine zC (by (try simp only [List.length_append,List.length_cons,List.length_nil]);lia) ?_ | refine ⟨⟨by lia,by lia⟩,?_⟩)
    refine zX (fun hl=>?_) fun hl=>?_
    ·rw [if_pos (by unfold jJ;simp only [List.length_append,List.length_cons,List.length_nil] at hl ⊢;simp_all)] at q;unfold jJ at q;exact ⟨trivial,q⟩
    ·rw [if_neg (by unfold jJ;simp only [List.length_append,List.length_cons,List.length_nil] at hl ⊢;simp_all)] at q;exact ⟨trivial,q⟩
   | 4,_,q =>
    refine Eq.mpr (r519_4 c m fun v=>Clo 0 v/\Q v σ) ?_;refine zD hi (zC (by simp only [List.length_singleton];lia) ⟨⟨m0,by lia⟩,zC ⟨by simp,by simp,m0,by lia⟩ ?_⟩);rw [kO];unfold rep at q;refine zX (fun hm=>?_) fun hm=>?_
    ·rw [if_pos (.inr (by lia))] at q;exact ⟨trivial,q⟩
    rw [if_neg (by simp +arith [*])] at q
    repeat (first | refine zC (by (try simp only [List.length_append,List.length_cons,List.length_nil]);lia) ?_ | refine ⟨⟨by lia,by lia⟩,?_⟩)
    refine zX (fun hl=>?_) fun hl=>?_
    ·rw [if_pos (by unfold jJ;simp only [List.length_append,List.length_cons,List.length_nil] at hl ⊢;lia)] at q;unfold jJ at q;exact ⟨trivial,q⟩
    ·rw [if_neg (by unfold jJ;simp only [List.length_append,List.length_cons,List.length_nil] at hl ⊢;lia)] at q;exact ⟨trivial,q⟩
end
end Mine
end
section
set_option tactic.hygienic false
set_option backward.match.sparseCases false
namespace Mine
noncomputable def jB(l:List Cell)(i:Nat):Bool:=match l[i]? with
 | some c=>c.plain
 | none=>false
noncomputable def csAt(l:List Cell)(i:Nat):List Int:=match l[i]? with
 | some c=>c.cs
 | none=>[]
noncomputable def zT(l:List Cell)(i:Nat):Bool:=decide (1<=i)&&(jB l i&&(jB l (i - 1)&&decide (csAt l (i - 1)=csAt l i)))
noncomputable def zW(l:List Cell):Prop:=(∀ c∈l,c.Ok)/\l.length<=1000
noncomputable def spGoes:xM:=fun args σ Q=>twoA args fun z0 z1=>zB (qE z0) fun vs=>zB (zL z1) fun i =>
  ∃ l:List Cell,(vs=l.map Cell.v/\zW l/\0<=i)/\Q (.bool (zT l i.toNat)) σ
theorem spGoes_of{args:List V}{σ:List O}{Q:V->List O->Prop}(hh:spGoes args σ Q):∃ vs i,args=[.lst vs,.int i] /\
  (∃ l:List Cell,(vs=l.map Cell.v/\zW l/\0<=i)/\Q (.bool (zT l i.toNat)) σ):=by
 apply gk;intro J;obtain ⟨z0,z1,rfl,h⟩:=xI hh;obtain ⟨vs,e0,h⟩:=zA h;obtain ⟨i,e1,h⟩:=zA h;apply J;clear J;exact ⟨vs,i,by rw [jA e0,zJ e1],h⟩
noncomputable abbrev T552:Tabs:=jH { specs:=[(545,spPl)],views:=[((505,63),1),((505,82),1)] }
noncomputable def ink(c:Cell):List UInt8:=match c.cs with
 | []=>[32]
 | cs=>othB cs
inductive Run where
 | many (c:Int) (n:Nat)
 | one (b:List UInt8)
noncomputable def Run.v:Run->V
 | .many c n=>.tup [.int c,.int (n:Nat)]
 | .one b=>.tup [.bytes b,.int 0]
noncomputable def Run.out(form:Nat):Run->List UInt8
 | .many c n=>rep form (UInt8.ofNat c.toNat) n
 | .one b=>b
noncomputable def yM(c:Cell):Int:=match c.cs with
 | [n]=>n
 | _=>0
noncomputable def bump1:Run->Run
 | .many c n=>.many c (n+1)
 | .one b=>.one b
noncomputable def bump:List Run->List Run
 | []=>[]
 | [r]=>[bump1 r]
 | r::s::rs=>r::bump (s::rs)
noncomputable def vD(c:Cell)(rs:List Run):List Run:=match c.plain with
 | true=>rs++[.many (yM c) 1]
 | false=>match decide (0 < c.w) with
  | true=>rs++[.one (ink c)]
  | false=>rs
noncomputable def zM(l:List Cell):Nat->List Run
 | 0=>[]
 | k+1=>match l[k]? with
  | some c=>match zT l k with
   | true=>bump (zM l k)
   | false=>vD c (zM l k)
  | none=>zM l k
noncomputable def zO(form:Nat)(l:List Cell)(k:Nat):List UInt8:=(zM l k).flatMap (Run.out form)
noncomputable def kB(c:Cell):List V:=match decide (0 < c.w)&&(!decide (c.cs=[])&&!c.plain) with
 | true=>[.tup (c.cs.map .int)]
 | false=>[]
noncomputable def zY(l:List Cell)(k:Nat):List V:=(l.take k).flatMap kB
noncomputable def kE(c:Cell):List UInt8:=match decide (0 < c.w) with
 | true=>match c.plain with
  | true=>[UInt8.ofNat (yM c).toNat]
  | false=>ink c
 | false=>[]
noncomputable def yF(l:List Cell)(k:Nat):List UInt8:=(l.take k).flatMap kE
noncomputable def spDue:xM:=fun args σ Q=>twoA args fun z0 z1=>zB (zL z0) fun f=>zB (qE z1) fun vs =>
  ∃ l:List Cell,(vs=l.map Cell.v/\zW l/\0<=f/\f<=4)/\Q (.tup [.bytes (zO f.toNat l l.length),.lst (zY l l.length),.bytes (yF l l.length)]) σ
theorem spDue_of{args:List V}{σ:List O}{Q:V->List O->Prop}(hh:spDue args σ Q):∃ f vs,args=[.int f,.lst vs] /\
  (∃ l:List Cell,(vs=l.map Cell.v/\zW l/\0<=f/\f<=4)/\Q (.tup [.bytes (zO f.toNat l l.length),.lst (zY l l.length),.bytes (yF l l.length)]) σ):=by
 apply gk;intro J;obtain ⟨z0,z1,rfl,h⟩:=xI hh;obtain ⟨f,e0,h⟩:=zA h;obtain ⟨vs,e1,h⟩:=zA h;apply J;clear J;exact ⟨f,vs,by rw [zJ e0,jA e1],h⟩
noncomputable abbrev T557:Tabs:=jH { specs:=[(552,spGoes),(545,spPl),(524,spOth),(519,spRepd)],views:=[((510,32),2),((510,45),2),((512,35),5),((518,61),3),((518,44),2),((518,82),4)] }
noncomputable def isForE:Stmt->Bool
 | .For _ it _ [] _=>match kI it with
  | some e=>kW e
  | none=>false
 | _=>false
noncomputable def forEA:Stmt->PySem.Expr
 | .For _ it _ _ _=>(kI it).getD it
 | _=>.Constant .none 0 default
noncomputable def expOf:Stmt->PySem.Expr
 | .Return (some e) _=>e
 | .Assign _ e _=>e
 | .Expr e _=>e
 | _=>.Constant .none 0 default
noncomputable def tupAt(i:Nat):PySem.Expr->PySem.Expr
 | .Tuple es _ _=>es.getD i (.Constant .none 0 default)
 | e=>e
noncomputable def argAt(i:Nat):PySem.Expr->PySem.Expr
 | .Call _ es _ _=>es.getD i (.Constant .none 0 default)
 | e=>e
noncomputable def cmpE:PySem.Expr->PySem.Expr
 | .ListComp e _ _ _=>e
 | e=>e
noncomputable def cmpSc:PySem.Expr->Scope
 | .ListComp _ _ sc _=>sc
 | _=>default
theorem forE_in{T:Tabs}{F:Fra}{m:Loc}{σ:List O}{Q:Fl->Loc->List O->Prop}{st:Stmt}{N:Nat}(n:Nat)(hN:N=n+1)(hf:isForE st=true)(ht:isTupE (forT st)=true)(he:nameP T F m σ "enumerate" fun v=>v=.ty "enumerate")
  (h:wpE T n F (forEA st) m σ fun a σ1=>yB (qE a) fun vs=>wpX T n F (whL st) (forT st) (kS vs) (whB st) m σ1 Q):wpS T N F st m σ Q:=by
 subst hN;induction st using PySem.Stmt.casesOn with
 | For t it b o p =>
  induction o using List.casesOn with
  | cons _ _=>cases hf
  | nil =>
   unfold isForE at hf;unfold forEA at h;dsimp only at hf h;cases hq:kI it with
   | none=>rw [hq] at hf;cases hf
   | some e =>
    rw [hq] at hf h;refine chkW_in rfl (optW_in hq ?_);exact ⟨he,chkW_in (by rw [Bool.and_eq_true];exact ⟨hf,ht⟩) h⟩
 | _=>first | exact zK hf | exact fne hf | cases hf
section
variable{prog:Program}{w:World}{K:Frag}{mb:Str->Option Value}{R R':Nat}
theorem spec_raw{f:Addr}{sp:xM}(H:∀ args σ Q,sp args σ Q->∃ T n,TabsOk prog w K mb R' T/\R'+(n+1) / 2<=R/\wpF T n f args σ Q):SpecOk prog w K mb R f sp:=by
 intro A own L ρ m σ s args vargs Q hA st S d hsp;apply gk;intro J;obtain ⟨T,n,hT,hR,hw⟩:=H args σ Q hsp;apply J;clear J;exact (all_ok hT n).f hw (hA.less hR) st S d
end
end Mine
end
section
set_option tactic.hygienic false
set_option maxRecDepth 1000000
namespace Mine
theorem r552(cs:List V)(i:Int)(P:V->List O->Prop):wpF T552 60 552 [.lst cs,.int i] [] P=(ifB (decide (i < 1)) (P (V.bool false) []) (chk (decide (cs.length<=big)) (ifB (decide (i>=(↑cs.length:Int))) (P (V.bool false) []) (chk (decide (cs.length<=big/\0<=idx cs.length i)) (@zB V cs[(idx cs.length i).toNat]? fun (val:V)=>(∃ (c:Cell),val=c.v/\c.Ok)/\ifB (!jW val) (P (V.bool false) []) (chk (decide (cs.length<=big/\0<=idx cs.length (i - 1))) (@zB V cs[(idx cs.length (i - 1)).toNat]? fun (val:V)=>(∃ (c:Cell),val=c.v/\c.Ok)/\ifB (jW val) (chk (decide (cs.length<=big/\0<=idx cs.length (i - 1))) (@zB V cs[(idx cs.length (i - 1)).toNat]? fun (val:V)=>∃ (cs_1:List V),∃ (w:Int),∃ (p:Int),val=V.tup [V.tup cs_1,V.int w,V.int p]/\chk (decide (cs.length<=big/\0<=idx cs.length i)) (@zB V cs[(idx cs.length i).toNat]? fun (val:V)=>∃ (cs:List V),∃ (w:Int),∃ (p:Int),val=V.tup [V.tup cs,V.int w,V.int p]/\chk (zV 9 cs_1&&zV 9 cs) (@zB Bool (eqL cs_1 cs) fun (val:Bool)=>P (V.bool val) [])))) (P (V.bool (jW val)) [])))))))):=by kernel_rfl
theorem r557a(cs:List V)(f:Int)(P:Fl->Loc->List O->Prop):zI T557 59 (zG 557 0) ((zE 557).take 1) [("cells",.lst cs)] [.cell (some (.int f))] P=(P Fl.next [("cells",V.lst cs),("signs",V.bytes []),("asked",V.loc ([O.cell (some (V.int f))]++[O.list []]).length),("runs",V.loc [O.cell (some (V.int f))].length)] [O.cell (some (V.int f)),O.list [],O.list []]):=by kernel_rfl
theorem r557b(cs l rs as:List V)(f k w p:Int)(s:List UInt8)(P:Fl->Loc->List O->Prop):zI T557 55 (zG 557 0) ((whB (nth 1 (zE 557))).take 1) [("cells",.lst l),("signs",.bytes s),("asked",.loc 2),("runs",.loc 1),("place",.int k),("cell",.tup [.tup cs,.int w,.int p])] [.cell (some (.int f)),.list rs,.list as] P=(∃ (l_1:List Cell),(l=List.map Cell.v l_1/\zW l_1/\0<=k)/\ifB (zT l_1 k.toNat) (chk (decide (rs.length<=big/\0<=idx rs.length (-1:Int))) (@zB V rs[(idx rs.length (-1:Int)).toNat]? fun (val:V)=>∃ (c:Int),∃ (n:Int),val=V.tup [V.int c,V.int n]/\chk (decide (rs.length<=big/\0<=idx rs.length (-1:Int))) (@zB V rs[(idx rs.length (-1:Int)).toNat]? fun (val:V)=>∃ (c_1:Int),∃ (n:Int),val=V.tup [V.int c_1,V.int n]/\chk (decide (rs.length<=big/\0<=idx rs.length (-1:Int)/\idx rs.length (-1:Int) < (↑rs.length:Int))) (P Fl.next [("cells",V.lst l),("signs",V.bytes s),("asked",V.loc 2),("runs",V.loc 1),("place",V.int k),("cell",V.tup [V.tup cs,V.int w,V.int p])] [O.cell (some (V.int f)),O.list (rs.set (idx rs.length (-1:Int)).toNat (V.tup [V.int c,V.int (n+1)])),O.list as])))) ((∃ (c:Cell),V.tup [V.tup cs,V.int w,V.int p]=c.v/\c.Ok)/\ifB (jW (V.tup [V.tup cs,V.int w,V.int p])) (@zB V cs[Int.toNat 0]? fun (val:V)=>∃ (n:Int),val=V.int n/\chk (decide (rs.length < 1000000)) (P Fl.next [("cells",V.lst l),("signs",V.bytes s),("asked",V.loc 2),("runs",V.loc 1),("place",V.int k),("cell",V.tup [V.tup cs,V.int w,V.int p])] [O.cell (some (V.int f)),O.list (rs++[V.tup [V.int n,V.int 1]]),O.list as])) (ifB (decide (w > 0)) (chk (zV 9 cs&&zV 9 []) (@zB Bool (eqL cs []) fun (val:Bool)=>ifB val (chk (decide (rs.length < 1000000)) (P Fl.next [("cells",V.lst l),("signs",V.bytes s),("asked",V.loc 2),("runs",V.loc 1),("place",V.int k),("cell",V.tup [V.tup cs,V.int w,V.int p])] [O.cell (some (V.int f)),O.list (rs++[V.tup [V.bytes [32],V.int 0]]),O.list as])) (∃ (cs_1:List Int),(cs=List.map V.int cs_1/\1<=cs_1.length/\cs_1.length<=2/\∀ (n:Int),n∈cs_1->0<=n/\n < 1000000)/\chk (decide (rs.length < 1000000)) (P Fl.next [("cells",V.lst l),("signs",V.bytes s),("asked",V.loc 2),("runs",V.loc 1),("place",V.int k),("cell",V.tup [V.tup cs,V.int w,V.int p])] [O.cell (some (V.int f)),O.list (rs++[V.tup [V.bytes (othB cs_1),V.int 0]]),O.list as])))) (P Fl.next [("cells",V.lst l),("signs",V.bytes s),("asked",V.loc 2),("runs",V.loc 1),("place",V.int k),("cell",V.tup [V.tup cs,V.int w,V.int p])] [O.cell (some (V.int f)),O.list rs,O.list as])))):=by kernel_rfl
theorem r557c(cs l rs as:List V)(f k w p:Int)(s:List UInt8)(P:Fl->Loc->List O->Prop):zI T557 54 (zG 557 0) (((whB (nth 1 (zE 557))).drop 1).take 1) [("cells",.lst l),("signs",.bytes s),("asked",.loc 2),("runs",.loc 1),("place",.int k),("cell",.tup [.tup cs,.int w,.int p])] [.cell (some (.int f)),.list rs,.list as] P=(ifB (decide (w > 0)) (chk (zV 9 cs&&zV 9 []) (@zB Bool (eqL cs []) fun (val:Bool)=>ifB (!val) ((∃ (c:Cell),V.tup [V.tup cs,V.int w,V.int p]=c.v/\c.Ok)/\ifB (!jW (V.tup [V.tup cs,V.int w,V.int p])) (chk (decide (as.length < 1000000)) (P Fl.next [("cells",V.lst l),("signs",V.bytes s),("asked",V.loc 2),("runs",V.loc 1),("place",V.int k),("cell",V.tup [V.tup cs,V.int w,V.int p])] [O.cell (some (V.int f)),O.list rs,O.list (as++[V.tup cs])])) (P Fl.next [("cells",V.lst l),("signs",V.bytes s),("asked",V.loc 2),("runs",V.loc 1),("place",V.int k),("cell",V.tup [V.tup cs,V.int w,V.int p])] [O.cell (some (V.int f)),O.list rs,O.list as])) (P Fl.next [("cells",V.lst l),("signs",V.bytes s),("asked",V.loc 2),("runs",V.loc 1),("place",V.int k),("cell",V.tup [V.tup cs,V.int w,V.int p])] [O.cell (some (V.int f)),O.list rs,O.list as]))) (P Fl.next [("cells",V.lst l),("signs",V.bytes s),("asked",V.loc 2),("runs",V.loc 1),("place",V.int k),("cell",V.tup [V.tup cs,V.int w,V.int p])] [O.cell (some (V.int f)),O.list rs,O.list as])):=by kernel_rfl
theorem r557d(cs l rs as:List V)(f k w p:Int)(s:List UInt8)(P:Fl->Loc->List O->Prop):zI T557 53 (zG 557 0) (((whB (nth 1 (zE 557))).drop 1).drop 1) [("cells",.lst l),("signs",.bytes s),("asked",.loc 2),("runs",.loc 1),("place",.int k),("cell",.tup [.tup cs,.int w,.int p])] [.cell (some (.int f)),.list rs,.list as] P=(ifB (decide (w > 0)) (chk (decide (rs.length<=big/\0<=idx rs.length (-1:Int))) (@zB V rs[(idx rs.length (-1:Int)).toNat]? fun (val:V)=>∃ (a:V),∃ (n:Int),val=V.tup [a,V.int n]/\ifB (decide (n > 0)) (chk (decide (rs.length<=big/\0<=idx rs.length (-1:Int))) (@zB V rs[(idx rs.length (-1:Int)).toNat]? fun (val:V)=>∃ (c:Int),∃ (n:Int),val=V.tup [V.int c,V.int n]/\@zB (List UInt8) (jD [V.int c]) fun (val:List UInt8)=>chk (decide (val.length<=big)) (chk (decide (s.length+val.length<=big)) (P Fl.next [("cells",V.lst l),("signs",V.bytes (s++val)),("asked",V.loc 2),("runs",V.loc 1),("place",V.int k),("cell",V.tup [V.tup cs,V.int w,V.int p])] [O.cell (some (V.int f)),O.list rs,O.list as])))) (chk (decide (rs.length<=big/\0<=idx rs.length (-1:Int))) (@zB V rs[(idx rs.length (-1:Int)).toNat]? fun (val:V)=>∃ (b:List UInt8),∃ (a:V),val=V.tup [V.bytes b,a]/\chk (decide (s.length+b.length<=big)) (P Fl.next [("cells",V.lst l),("signs",V.bytes (s++b)),("asked",V.loc 2),("runs",V.loc 1),("place",V.int k),("cell",V.tup [V.tup cs,V.int w,V.int p])] [O.cell (some (V.int f)),O.list rs,O.list as]))))) (P Fl.next [("cells",V.lst l),("signs",V.bytes s),("asked",V.loc 2),("runs",V.loc 1),("place",V.int k),("cell",V.tup [V.tup cs,V.int w,V.int p])] [O.cell (some (V.int f)),O.list rs,O.list as])):=by kernel_rfl
theorem r557e(l rs as:List V)(f:Int)(s:List UInt8)(P:V->List O->Prop):wpE T557 56 (zG 557 0) (forEA (nth 1 (zE 557))) [("cells",.lst l),("signs",.bytes s),("asked",.loc 2),("runs",.loc 1)] [.cell (some (.int f)),.list rs,.list as] P=(P (V.lst l) [O.cell (some (V.int f)),O.list rs,O.list as]):=by kernel_rfl
theorem r557z(l rs as:List V)(f:Int)(s:List UInt8)(m:Loc)(P:Fl->Loc->List O->Prop):zI T557 57 (zG 557 0) ((zE 557).drop 2) (("cells",.lst l)::("signs",.bytes s)::("asked",.loc 2)::("runs",.loc 1)::m) [.cell (some (.int f)),.list rs,.list as] P=(rs.length<=1000000/\∃ (f_1:V->V),wpK T557 50 (zP (zG 557 0) { kind:=ScopeKind.function,names:=[(".0",NameKind.local),("one",NameKind.local),("many",NameKind.local),("_law_repeated",NameKind.globalImplicit),("form",NameKind.free)],isGenerator:=false,isCoroutine:=false }) (((Expr.Name "many" { line:=519,col:=56,endLine:=519,endCol:=60 }).Compare [CmpOp.Gt] [Expr.Constant (Const.int 0) 0 { line:=519,col:=63,endLine:=519,endCol:=64 }] { line:=519,col:=56,endLine:=519,endCol:=64 }).IfExp ((Expr.Name "_law_repeated" { line:=519,col:=22,endLine:=519,endCol:=35 }).Call [Expr.Name "form" { line:=519,col:=36,endLine:=519,endCol:=40 },Expr.Name "one" { line:=519,col:=42,endLine:=519,endCol:=45 },Expr.Name "many" { line:=519,col:=47,endLine:=519,endCol:=51 }] [] { line:=519,col:=22,endLine:=519,endCol:=52 }) (Expr.Name "one" { line:=519,col:=70,endLine:=519,endCol:=73 }) { line:=519,col:=22,endLine:=519,endCol:=73 }) (Expr.Tuple [Expr.Name "one" { line:=519,col:=78,endLine:=519,endCol:=81 },Expr.Name "many" { line:=519,col:=83,endLine:=519,endCol:=87 }] 0 { line:=519,col:=78,endLine:=519,endCol:=87 }) rs [O.cell (some (V.int f)),O.list rs,O.list as] f_1/\@zB (List (List UInt8)) (byOf (List.map f_1 rs)) fun (val:List (List UInt8))=>chk (decide ((yT [] val).length<=big)) (P (Fl.ret (V.tup [V.bytes (yT [] val),V.loc 2,V.bytes s])) (("cells",V.lst l)::("signs",V.bytes s)::("asked",V.loc 2)::("runs",V.loc 1)::m) [O.cell (some (V.int f)),O.list rs,O.list as])):=by kernel_rfl
theorem r557k(c n f:Int)(rs as:List V)(P:V->List O->Prop):wpE T557 49 (zP (zG 557 0) (cmpSc (argAt 0 (tupAt 0 (expOf (nth 2 (zE 557))))))) (cmpE (argAt 0 (tupAt 0 (expOf (nth 2 (zE 557)))))) [("one",.int c),("many",.int n)] [.cell (some (.int f)),.list rs,.list as] P=(ifB (decide (n > 0)) ((0<=f/\f<=4/\c∈codesI/\0<=n/\n<=1000)/\P (V.bytes (rep f.toNat (UInt8.ofNat c.toNat) n.toNat)) [O.cell (some (V.int f)),O.list rs,O.list as]) (P (V.int c) [O.cell (some (V.int f)),O.list rs,O.list as])):=by kernel_rfl
theorem r557j(b:List UInt8)(n f:Int)(rs as:List V)(P:V->List O->Prop):wpE T557 49 (zP (zG 557 0) (cmpSc (argAt 0 (tupAt 0 (expOf (nth 2 (zE 557))))))) (cmpE (argAt 0 (tupAt 0 (expOf (nth 2 (zE 557)))))) [("one",.bytes b),("many",.int 0)] [.cell (some (.int f)),.list rs,.list as] P=(P (V.bytes b) [O.cell (some (V.int f)),O.list rs,O.list as]):=by kernel_rfl
end Mine
end
section
set_option tactic.hygienic false
namespace Mine
theorem eq_ints2(cs ds:List Int):eqL (cs.map .int) (ds.map .int)=some (decide (cs=ds)):=eqL_int
theorem Cell.v_eq{c:Cell}:c.v=.tup [.tup (c.cs.map .int),.int c.w,.int c.p]:=rfl
theorem map_at{l:List Cell}{i:Nat}{c:Cell}(h:l[i]?=some c):(l.map Cell.v)[i]?=some c.v:=by refine rwp List.getElem?_map ?_;refine rwp h ?_;rfl
theorem jT{n:Nat}{i:Int}(h:0<=i):idx n i=i:=by unfold idx;rw [if_neg (by simp_all)]
theorem idx_m1{n:Nat}:idx n (-1)=(n:Int) - 1:=by unfold idx;refine rwp (if_pos (by decide)) ?_;simp +arith [*]
theorem yJ{l:List Cell}{i:Nat}{c:Cell}(h:l[i]?=some c):jB l i=c.plain:=by unfold jB;rw [h]
theorem kJ{l:List Cell}{i:Nat}{c:Cell}(h:l[i]?=some c):csAt l i=c.cs:=by unfold csAt;rw [h]
theorem qZ{l:List Cell}{i:Nat}{c:Cell}(h:zW l)(e:l[i]?=some c):c.Ok:=h.1 c (List.mem_of_getElem? e)
section
variable{prog:Program}{w:World}{K:Frag}{mb:Str->Option Value}(B:vE prog w K mb)
include B
theorem ok552:SpecOk prog w K mb 65 552 spGoes :=
 xU (R':=30) fun args σ Q h=>by
  replace h:=spGoes_of h;apply gk;intro J;obtain ⟨vs,i,rfl,h⟩:=h;apply J;clear J
  ·apply gk;intro J;obtain ⟨l,⟨rfl,hok,i0⟩,q⟩:=h;apply J;clear J;refine ⟨⟨kL _ _,trivial,trivial⟩,T552,60,B _ _ (zS (ok545 B) (by exact Nat.le_refl _) yK),by simp_all,?_⟩;refine Eq.mpr (r552 (l.map Cell.v) i fun v _=>Clo 0 v/\Q v σ) ?_;have hb:=qI;have hl:=hok.2;rw [List.length_map];refine zX (fun h=>?_) fun h=>?_
   ·have e:zT l i.toNat=false:=by unfold zT;refine rwp (decide_eq_false (by simp_all)) ?_;rfl
    rw [e] at q;exact ⟨trivial,q⟩
   refine zC (by lia) (zX (fun h1=>?_) fun h1=>?_)
   ·have e:zT l i.toNat=false:=by
     unfold zT jB;refine rwp (List.getElem?_eq_none (by simp [*])) ?_;simp
    rw [e] at q;exact ⟨trivial,q⟩
   have hi:i.toNat < l.length:=by simp_all
   have hi1:i.toNat - 1 < l.length:=by lia
   obtain ⟨c,hc⟩:∃ c,l[i.toNat]?=some c:=⟨_,List.getElem?_eq_getElem hi⟩
   obtain ⟨d,hd⟩:∃ c,l[i.toNat - 1]?=some c:=⟨_,List.getElem?_eq_getElem hi1⟩
   refine rwp (jT i0) ?_;refine rwp (jT (show 0<=i - 1 by simp_all)) ?_;refine rwp (show (i - 1).toNat=i.toNat - 1 by simp_all) ?_;have eg:zT l i.toNat=(c.plain&&(d.plain&&decide (d.cs=c.cs))):=by
    unfold zT;refine rwp (decide_eq_true (by simp_all)) ?_;refine rwp (yJ hc) ?_;refine rwp (yJ hd) ?_;refine rwp (kJ hc) ?_;refine rwp (kJ hd) ?_;rfl
   rw [eg] at q;refine zC ⟨by lia,i0⟩ (zD (map_at hc) ⟨⟨c,rfl,qZ hok hc⟩,?_⟩);rw [kK];refine vA (fun h2=>?_) fun h2=>?_
   ·rw [show c.plain=false by simpa using h2] at q;exact ⟨trivial,q⟩
   rw [show c.plain=true by simpa using h2,Bool.true_and] at q;refine zC ⟨by lia,by lia⟩ (zD (map_at hd) ⟨⟨d,rfl,qZ hok hd⟩,?_⟩);rw [kK];refine vA (fun h3=>?_) fun h3=>?_
   ·rw [h3,Bool.true_and] at q;refine zC ⟨by lia,by lia⟩ (zD (map_at hd) ⟨_,_,_,rfl,zC ⟨by lia,i0⟩ (zD (map_at hc) ⟨_,_,_,rfl,xD ?_ (zD (eq_ints2 _ _) ⟨trivial,q⟩)⟩)⟩);rw [xS,xS];rfl
   ·rw [h3,Bool.false_and] at q;refine rwp h3 ?_;exact ⟨trivial,q⟩
end
end Mine
end
section
set_option tactic.hygienic false
namespace Mine
theorem kP{c:Cell}(h:c.plain=true):∃ n,c.cs=[n]/\c.w=1/\33<=n/\n<=126/\yM c=n:=by
 obtain ⟨cs,w,p⟩:=c
 match cs,h with
 | [n],h =>
  obtain ⟨h1,h2,h3⟩:=of_decide_eq_true (show decide (w=1/\33<=n/\n<=126)=true from h);exact ⟨n,rfl,h1,h2,h3,rfl⟩
theorem code_in{c:Cell}(h:c.plain=true)(hk:c.Ok):yM c∈codesI:=by
 obtain ⟨n,h1,_,_,_,h2⟩:=kP h;obtain ⟨m,h3,h4⟩:=hk.2.2 h;rw [h1] at h3;cases h3;refine rwp h2 ?_;exact h4
theorem plain_w{c:Cell}(h:c.plain=true):0 < c.w:=by obtain ⟨_,_,h,_⟩:=kP h;simp_all
theorem qO(rs:List Run)(r:Run):bump (rs++[r])=rs++[bump1 r]:=by
 induction rs with
 | nil=>rfl
 | cons a rs ih =>
  induction rs using List.casesOn with
  | nil=>rfl
  | cons b rs =>
   show a::bump (b::rs++[r])=_
   refine rwp ih ?_;rfl
theorem jU{l:List Cell}{k:Nat}(h:zT l k=true):1<=k/\jB l k=true/\jB l (k - 1)=true/\csAt l (k - 1)=csAt l k:=by
 unfold zT at h;simp only [Bool.and_eq_true,decide_eq_true_eq] at h;exact ⟨h.1,h.2.1,h.2.2.1,h.2.2.2⟩
theorem yY{l:List Cell}{k:Nat}{c:Cell}(h:l[k]?=some c):zM l (k+1)=match zT l k with
  | true=>bump (zM l k)
  | false=>vD c (zM l k):=by
 (rw [zM];refine rwp h ?_) <;> rfl
theorem addR_p{c:Cell}(h:c.plain=true)(rs:List Run):vD c rs=rs++[.many (yM c) 1]:=by unfold vD;rw [h]
theorem addR_w{c:Cell}(h:c.plain=false)(hw:0 < c.w)(rs:List Run):vD c rs=rs++[.one (ink c)]:=by unfold vD;rw [h,decide_eq_true hw]
theorem addR_n{c:Cell}(h:c.plain=false)(hw:¬ 0 < c.w)(rs:List Run):vD c rs=rs:=by unfold vD;rw [h,decide_eq_false hw]
theorem runs_last{l:List Cell}:∀ {k:Nat} {c:Cell},l[k]?=some c->0 < c.w->∃ rs r,zM l (k+1)=rs++[r]/\(c.plain=true->∃ n,r=.many (yM c) (n+1))/\(c.plain=false->r=.one (ink c)):=by
 have fin:∀ {c:Cell} (as:List Run),0 < c.w->∃ rs r,vD c as=rs++[r]/\(c.plain=true->∃ n,r=.many (yM c) (n+1))/\(c.plain=false->r=.one (ink c)):=fun {c} as hw=>by
  cases hp:c.plain with
  | true=>exact ⟨_,_,addR_p hp _,fun _=>⟨0,rfl⟩,fun q=>by cases q⟩
  | false=>exact ⟨_,_,addR_w hp hw _,fun q=>(nomatch q),fun _=>rfl⟩
 intro k;induction k with
 | zero =>
  intro c h hw;refine rwp (yY h) ?_;exact fin _ hw
 | succ j ih =>
  intro c h hw;rw [yY h];cases hg:zT l (j+1) with
  | true =>
   apply gk;intro J;obtain ⟨h1,h2,h3,h4⟩:=jU hg;rw [Nat.add_sub_cancel] at h3 h4;obtain ⟨d,hd⟩:∃ d,l[j]?=some d:=⟨_,List.getElem?_eq_getElem (by have:=(List.getElem?_eq_some_iff.mp h).1;exact Nat.le_of_succ_le (by assumption))⟩
   rw [yJ hd] at h3;rw [yJ h] at h2;rw [kJ hd,kJ h] at h4;obtain ⟨rs,r,e,e1,_⟩:=ih hd (plain_w h3);obtain ⟨n,rfl⟩:=e1 h3;apply J;clear J;refine ⟨rs,bump1 (.many (yM d) (n+1)),by rw [<- qO,<- e],fun _=>⟨n+1,?_⟩,fun q=>by rw [h2] at q;cases q⟩;rw [show yM c=yM d by unfold yM;rw [h4]];rfl
  | false=>exact fin _ hw
noncomputable def RunOk(k:Nat):Run->Prop
 | .many c n=>c∈codesI/\1<=n/\n<=k
 | .one b=>b.length<=30
theorem RunOk.up{k:Nat}:∀ {r:Run},RunOk k r->RunOk (k+1) r
 | .many _ _,h=>⟨h.1,h.2.1,by have:=h.2.2;lia⟩
 | .one _,h=>h
theorem RunOk.bump{k:Nat}:∀ {r:Run},RunOk k r->RunOk (k+1) (bump1 r)
 | .many _ _,h=>⟨h.1,by have:=h.2.1;exact Nat.le_add_left _ _,by have:=h.2.2;simp_all⟩
 | .one _,h=>h
theorem ink_len{c:Cell}(h:c.Ok):(ink c).length<=30:=by
 obtain ⟨cs,w,p⟩:=c;obtain ⟨h1,h2,_⟩:=h;unfold ink;rcases cs with _ | ⟨a,_ | ⟨b,_ | ⟨c,r⟩⟩⟩
 ·simp
 ·have:=yG a.toNat 9 (by have:=h2 a (.head _);lia);show ([123]++zF a.toNat++[125]).length<=30
  simp;lia
 ·have:=yG a.toNat 9 (by have:=h2 a (.head _);lia);have:=yG b.toNat 9 (by have:=h2 b (.tail _ (.head _));lia);show ([123]++(zF a.toNat++([44]++zF b.toNat))++[125]).length<=30
  simp;lia
 ·simp at h1
theorem bump_ok{k:Nat}:∀ {rs:List Run},(∀ r∈rs,RunOk k r)->∀ r∈bump rs,RunOk (k+1) r
 | [],_,r,hr=>by cases hr
 | [a],h,r,hr=>by
  refine rwp (List.mem_singleton.mp hr) ?_;exact (h a (.head _)).bump
 | a::b::rs,h,r,hr=>by
  rcases List.mem_cons.mp hr with e | hr
  ·refine rwp e ?_;exact (h a (.head _)).up
  ·exact bump_ok (fun r q=>h r (.tail _ q)) r hr
theorem bump_len:∀ rs:List Run,(bump rs).length=rs.length
 | []=>rfl
 | [_]=>rfl
 | _::b::rs=>by
  show (bump (b::rs)).length+1=_
  refine rwp (bump_len (b::rs)) ?_;rfl
theorem runs_ok{l:List Cell}(hl:zW l):∀ k,(∀ r∈zM l k,RunOk k r)/\(zM l k).length<=k:=by
 intro zv;induction zv with
 | zero =>
  exact ⟨fun _ h=>(nomatch h),Nat.le_refl _⟩
 | succ k ih =>
  obtain ⟨h1,h2⟩:=ih;cases hc:l[k]? with
  | none =>
   rw [show zM l (k+1)=zM l k by rw [zM,hc]];exact ⟨fun r q=>(h1 r q).up,by lia⟩
  | some c =>
   have hk:=qZ hl hc;rw [yY hc];cases zT l k with
   | true=>exact ⟨bump_ok h1,by show (bump _).length<=_;rw [bump_len];lia⟩
   | false =>
    show (∀ r∈vD c _,_)/\(vD c _).length<=_
    cases hp:c.plain with
    | true =>
     rw [addR_p hp];refine ⟨fun r q=>?_,by simp;simp_all⟩;rcases List.mem_append.mp q with q | q
     ·exact (h1 r q).up
     ·rw [List.mem_singleton.mp q];exact ⟨code_in hp hk,Nat.le_refl _,by exact Nat.le_add_left _ _⟩
    | false =>
     by_cases hw:0 < c.w
     ·rw [addR_w hp hw];refine ⟨fun r q=>?_,by simp;simp_all⟩;rcases List.mem_append.mp q with q | q
      ·exact (h1 r q).up
      ·rw [List.mem_singleton.mp q];exact ink_len hk
     ·rw [addR_n hp hw];exact ⟨fun r q=>(h1 r q).up,by lia⟩
theorem rep_len(form:Nat)(c:UInt8)(n:Nat):(rep form c n).length<=n:=by
 unfold rep;split
 ·refine rwp List.length_replicate ?_;exact Nat.le_refl _
 ·split
  ·exact Nat.le_of_succ_le (by assumption)
  ·refine rwp List.length_replicate ?_;lia
theorem out_len{k form:Nat}:∀ {r:Run},RunOk k r->k<=1000->(Run.out form r).length<=1000
 | .many c n,h,hk=>by
  have:=rep_len form (UInt8.ofNat c.toNat) n;have:=h.2.2;show (rep _ _ _).length<=_
  lia
 | .one b,h,_=>by
  have:b.length<=30:=h;show b.length<=1000
  lia
theorem flat_len{α β:Type}{f:α->List β}{b:Nat}:∀ {l:List α},(∀ x∈l,(f x).length<=b)->(l.flatMap f).length<=l.length*b:=by
 intro zv;induction zv with
 | nil =>
  intro _;simp
 | cons x l ih =>
  intro h;have h1:=h x (.head _);have h2:=ih fun y q=>h y (.tail _ q);refine rwp List.flatMap_cons ?_;refine rwp List.length_append ?_;refine rwp List.length_cons ?_;rw [Nat.add_mul];lia
theorem jQ{l:List Cell}(hl:zW l)(form:Nat){k:Nat}(hk:k<=1000):(zO form l k).length<=1000000:=by
 obtain ⟨h1,h2⟩:=runs_ok hl k;have:=flat_len (f:=Run.out form) (b:=1000) (l:=zM l k) fun r q=>out_len (h1 r q) hk;unfold zO;have:(zM l k).length*1000<=1000*1000:=Nat.mul_le_mul_right _ (by exact Nat.le_trans (by assumption) (by assumption));exact Nat.le_trans (by assumption) (by assumption)
theorem joinB_nil:∀ bs:List (List UInt8),yT [] bs=bs.flatten
 | []=>rfl
 | b::r=>by
  show b++r.flatMap (fun c=>[]++c)=_
  refine rwp List.flatten_cons ?_;simp [List.flatMap_def]
theorem byOf_map:∀ bs:List (List UInt8),byOf (bs.map V.bytes)=some bs
 | []=>rfl
 | b::r=>by
  show (byOf (r.map V.bytes)).map _=_
  refine rwp (byOf_map r) ?_;rfl
theorem xR{α β:Type}{f:α->List β}{l:List α}{k:Nat}{c:α}(h:l[k]?=some c):(l.take (k+1)).flatMap f=(l.take k).flatMap f++f c:=by
 refine rwp List.take_add_one ?_;refine rwp h ?_;refine rwp List.flatMap_append ?_;simp
theorem ask_len(l:List Cell)(k:Nat):(zY l k).length<=l.length:=by
 have:=flat_len (f:=kB) (b:=1) (l:=l.take k) fun c _=>by unfold kB;split <;> simp
 unfold zY;rw [List.length_take] at this;lia
theorem sign_len{l:List Cell}(hl:zW l)(k:Nat):(yF l k).length<=30000:=by
 have:=flat_len (f:=kE) (b:=30) (l:=l.take k) fun c q=>by
  have:=ink_len (hl.1 c (List.mem_of_mem_take q));unfold kE;split
  ·split
   ·simp
   ·exact this
  ·simp
 have h2:=hl.2;unfold yF;rw [List.length_take] at this;lia
theorem last_at(rs:List V)(x:V):(rs++[x])[(idx (rs++[x]).length (-1)).toNat]?=some x:=by
 refine rwp idx_m1 ?_;refine rwp List.length_append ?_;refine rwp List.length_singleton ?_;refine rwp (show (((rs.length+1:Nat):Int) - 1).toNat=rs.length by simp_all) ?_;simp
theorem last_set(rs:List V)(x y:V):(rs++[x]).set (idx (rs++[x]).length (-1)).toNat y=rs++[y]:=by
 refine rwp idx_m1 ?_;refine rwp List.length_append ?_;refine rwp List.length_singleton ?_;refine rwp (show (((rs.length+1:Nat):Int) - 1).toNat=rs.length by lia) ?_;refine rwp (List.set_append_right _ _ (Nat.le_refl _)) ?_;simp
end Mine
end
section
set_option tactic.hygienic false
set_option maxHeartbeats 1000000
namespace Mine
noncomputable def runF(form:Nat):V->V
 | .tup [.int c,.int n]=>.bytes (rep form (UInt8.ofNat c.toNat) n.toNat)
 | .tup [b,_]=>b
 | v=>v
theorem runF_v(form:Nat):∀ r:Run,runF form r.v=.bytes (r.out form)
 | .many _ _=>rfl
 | .one _=>rfl
theorem runF_map(form:Nat)(rs:List Run):(rs.map Run.v).map (runF form)=(rs.map (Run.out form)).map V.bytes:=by
 refine rwp List.map_map ?_;refine rwp List.map_map ?_;exact List.map_congr_left fun r _=>runF_v form r
theorem seqP{T:Tabs}{F:Fra}{l:List Stmt}{m:Loc}{σ:List O}{Q:Fl->Loc->List O->Prop}{N n:Nat}(hN:N=n+1+1)(hl:1<=l.length)(h:zI T N F (l.take 1) m σ (kN (fun m σ=>zI T (n+1) F (l.drop 1) m σ Q) Q)):zI T N F l m σ Q:=cut_at (i:=1) hN hl h
theorem enum_at{l:List Cell}{k:Nat}{x:V}(h:(kS (l.map Cell.v))[k]?=some x):∃ c,l[k]?=some c/\x=.tup [.int (k:Nat),c.v]:=by
 apply gk;intro J;obtain ⟨y,h1,h2⟩:=enum_get h;apply J;clear J;rw [List.getElem?_map] at h1;cases hc:l[k]? with
 | none=>rw [hc] at h1;cases h1
 | some c=>rw [hc] at h1;cases h1;exact ⟨c,rfl,h2⟩
theorem enum_len(l:List V):(kS l).length=l.length:=by simp [kS]
theorem clo_ask(c:Cell)(k:Nat):yR k (kB c):=by
 unfold kB;split
 ·exact ⟨clo_ints _ _,trivial⟩
 ·trivial
theorem clo_flat{α:Type}{f:α->List V}{k:Nat}(h:∀ x,yR k (f x)):∀ l:List α,yR k (l.flatMap f):=by
 intro zv;induction zv with
 | nil =>
  exact trivial
 | cons x l ih =>
  refine rwp List.flatMap_cons ?_;exact cloL_app (h x) (ih)
noncomputable def M557(vs:List V)(s:List UInt8)(r:Loc):Loc:=("cells",.lst vs)::("signs",.bytes s)::("asked",.loc 2)::("runs",.loc 1)::r
noncomputable def R557(k:Nat)(c:Cell):Loc:=[("place",.int (k:Nat)),("cell",.tup [.tup (c.cs.map .int),.int c.w,.int c.p])]
noncomputable def S557(f:Int)(rs:List Run)(as:List V):List O:=[.cell (some (.int f)),.list (rs.map Run.v),.list as]
noncomputable def I557(l:List Cell)(f:Int)(k:Nat)(m:Loc)(σ:List O):Prop:=(∃ r,(r=[]\/∃ a b,r=([("place",a),("cell",b)]:Loc))/\m=M557 (l.map Cell.v) (yF l k) r)/\σ=S557 f (zM l k) (zY l k)
theorem pl_in(c:Cell):(zV 9 (c.cs.map .int)&&zV 9 [])=true:=by rw [xS];rfl
theorem cell_in{c:Cell}(h:c.Ok):∃ c':Cell,V.tup [.tup (c.cs.map .int),.int c.w,.int c.p]=c'.v/\c'.Ok:=⟨c,rfl,h⟩
theorem plainOf_t(c:Cell):jW (.tup [.tup (c.cs.map .int),.int c.w,.int c.p])=c.plain:=kK c
section
variable{l:List Cell}(hok:zW l){k:Nat}{c:Cell}(hc:l[k]?=some c){f:Int}{s:List UInt8}{P:Fl->Loc->List O->Prop}
include hok hc
theorem b557{as:List V}(next:P .next (M557 (l.map Cell.v) s (R557 k c)) (S557 f (zM l (k+1)) as)):zI T557 55 (zG 557 0) ((whB (nth 1 (zE 557))).take 1) (M557 (l.map Cell.v) s (R557 k c)) (S557 f (zM l k) as) P:=by
 have hb:=qI;have hl:=hok.2;have hk:=qZ hok hc;have hkl:k < l.length:=(List.getElem?_eq_some_iff.mp hc).1;apply gk;intro J;obtain ⟨_,hrl⟩:=runs_ok hok k;apply J;clear J;have nx:∀ rs,rs=(zM l (k+1)).map Run.v->P .next (M557 (l.map Cell.v) s (R557 k c)) [.cell (some (.int f)),.list rs,.list as]:=fun rs e=>by subst e;exact next
 refine Eq.mpr (r557b (c.cs.map .int) (l.map Cell.v) ((zM l k).map Run.v) as f k c.w c.p s P) ?_;refine ⟨l,⟨rfl,hok,by simp_all⟩,?_⟩;have er:=yY hc;refine rwp (show ((k:Nat):Int).toNat=k from rfl) ?_;refine vA (fun hg=>?_) fun hg=>?_
 ·rw [hg] at er;apply gk;intro J;obtain ⟨g1,g2,g3,g4⟩:=jU hg;obtain ⟨j,rfl⟩:∃ j,k=j+1:=⟨k - 1,by simp_all⟩
  rw [Nat.add_sub_cancel] at g3;obtain ⟨d,hd⟩:∃ d,l[j]?=some d:=⟨_,List.getElem?_eq_getElem (by exact Nat.le_of_succ_le (by assumption))⟩
  rw [yJ hd] at g3;obtain ⟨rs,r,e0,e1,_⟩:=runs_last hd (plain_w g3);obtain ⟨n,rfl⟩:=e1 g3;apply J;clear J;have ev:(zM l (j+1)).map Run.v=rs.map Run.v++[(Run.many (yM d) (n+1)).v]:=by refine rwp e0 ?_;refine rwp List.map_append ?_;rfl
  refine rwp ev ?_;rw [e0] at hrl;have hch:(rs.map Run.v++[(Run.many (yM d) (n+1)).v]).length<=big/\0<=idx (rs.map Run.v++[(Run.many (yM d) (n+1)).v]).length (-1):=by
   refine rwp idx_m1 ?_;simp only [List.length_append,List.length_map,List.length_singleton] at hrl ⊢;lia
  refine zC hch (zD (last_at _ _) ⟨yM d,((n+1:Nat):Int),rfl,zC hch (zD (last_at _ _) ⟨yM d,((n+1:Nat):Int),rfl,zC ⟨hch.1,hch.2,?_⟩ ?_⟩)⟩)
  ·refine rwp idx_m1 ?_;lia
  ·rw [last_set];refine nx _ ?_;refine rwp er ?_;refine rwp e0 ?_;show _=(bump (rs++[_])).map Run.v
   rw [qO];refine rwp List.map_append ?_;rfl
 ·rw [hg] at er;have er:zM l (k+1)=vD c (zM l k):=er;refine ⟨cell_in hk,?_⟩;rw [plainOf_t];refine vA (fun hp=>?_) fun hp=>?_
  ·apply gk;intro J;obtain ⟨n,h1,h2,h3,h4,h5⟩:=kP hp;apply J;clear J;refine zD (a:=.int n) (by refine rwp h1 ?_;rfl) ⟨n,rfl,zC (by rw [List.length_map];lia) (nx _ ?_)⟩;refine rwp er ?_;rw [addR_p hp];refine rwp List.map_append ?_;refine rwp h5 ?_;rfl
  ·refine zX (fun hw=>?_) fun hw=>?_
   ·have er:zM l (k+1)=zM l k++[.one (ink c)]:=by refine rwp er ?_;rw [addR_w hp hw]
    refine xD (pl_in c) (zD (eq_ints _) (zX (fun h=>?_) fun h=>?_))
    ·refine zC (by rw [List.length_map];lia) (nx _ ?_);refine rwp er ?_;refine rwp List.map_append ?_;unfold ink;refine rwp h ?_;rfl
    ·refine ⟨c.cs,⟨rfl,List.length_pos_iff.mpr h,hk.1,hk.2.1⟩,zC (by rw [List.length_map];lia) (nx _ ?_)⟩;refine rwp er ?_;refine rwp List.map_append ?_;have:ink c=othB c.cs:=by
      unfold ink;split
      ·rename_i h';exact absurd h' h
      ·rfl
     refine rwp this ?_;rfl
   ·refine nx _ ?_;refine rwp er ?_;rw [addR_n hp hw]
theorem c557{rs:List Run}(next:P .next (M557 (l.map Cell.v) s (R557 k c)) (S557 f rs (zY l (k+1)))):zI T557 54 (zG 557 0) (((whB (nth 1 (zE 557))).drop 1).take 1) (M557 (l.map Cell.v) s (R557 k c)) (S557 f rs (zY l k)) P:=by
 have hl:=hok.2;have hk:=qZ hok hc;have ha:=ask_len l k;have ha1:zY l (k+1)=zY l k++kB c:=xR hc;have nx:∀ as,as=zY l (k+1)->P .next (M557 (l.map Cell.v) s (R557 k c)) [.cell (some (.int f)),.list (rs.map Run.v),.list as]:=fun rs e=>by subst e;exact next
 refine Eq.mpr (r557c (c.cs.map .int) (l.map Cell.v) (rs.map Run.v) (zY l k) f k c.w c.p s P) ?_;refine zX (fun hw=>?_) fun hw=>?_
 ·refine xD (pl_in c) (zD (eq_ints _) (vA (fun h=>?_) fun h=>?_))
  ·refine ⟨cell_in hk,?_⟩;rw [plainOf_t];refine vA (fun h2=>?_) fun h2=>?_
   ·refine zC (by lia) (nx _ ?_);refine rwp ha1 ?_;unfold kB;refine rwp (decide_eq_true (show 0 < c.w from hw)) ?_;refine rwp h ?_;refine rwp h2 ?_;rfl
   ·refine nx _ ?_;refine rwp ha1 ?_;unfold kB;refine rwp h2 ?_;rw [Bool.and_false,Bool.and_false];simp
  ·refine nx _ ?_;refine rwp ha1 ?_;unfold kB;refine rwp h ?_;rw [Bool.false_and,Bool.and_false];simp
 ·refine nx _ ?_;refine rwp ha1 ?_;unfold kB;refine rwp (decide_eq_false (show ¬ 0 < c.w from hw)) ?_;rw [Bool.false_and];simp
theorem d557{as:List V}(next:P .next (M557 (l.map Cell.v) (yF l (k+1)) (R557 k c)) (S557 f (zM l (k+1)) as)):zI T557 53 (zG 557 0) (((whB (nth 1 (zE 557))).drop 1).drop 1) (M557 (l.map Cell.v) (yF l k) (R557 k c)) (S557 f (zM l (k+1)) as) P:=by
 have hb:=qI;have hl:=hok.2;have hk:=qZ hok hc;have hkl:k < l.length:=(List.getElem?_eq_some_iff.mp hc).1;apply gk;intro J;obtain ⟨_,hrl'⟩:=runs_ok hok (k+1);apply J;clear J;have hs:=sign_len hok k;have hs1:yF l (k+1)=yF l k++kE c:=xR hc;have nx:∀ s,s=yF l (k+1)->P .next (M557 (l.map Cell.v) s (R557 k c)) (S557 f (zM l (k+1)) as):=fun s e=>by subst e;exact next
 refine Eq.mpr (r557d (c.cs.map .int) (l.map Cell.v) ((zM l (k+1)).map Run.v) as f k c.w c.p (yF l k) P) ?_;refine zX (fun hw=>?_) fun hw=>?_
 ·apply gk;intro J;obtain ⟨rs,r,er,e1,e2⟩:=runs_last hc hw;apply J;clear J;rw [er] at hrl';have ev:(zM l (k+1)).map Run.v=rs.map Run.v++[r.v]:=by rw [er,List.map_append];rfl
  have hch:(rs.map Run.v++[r.v]).length<=big/\0<=idx (rs.map Run.v++[r.v]).length (-1):=by
   rw [idx_m1];simp only [List.length_append,List.length_map,List.length_singleton] at hrl' ⊢;lia
  rw [ev];cases hp:c.plain with
  | true =>
   apply gk;intro J;obtain ⟨n,rfl⟩:=e1 hp;apply J;clear J;refine zC hch (zD (last_at _ _) ⟨.int (yM c),((n+1:Nat):Int),rfl,qB (decide_eq_true (by simp_all)) (zC hch (zD (last_at _ _) ⟨yM c,((n+1:Nat):Int),rfl,?_⟩))⟩);have hcc:33<=yM c/\yM c<=126:=by
    apply gk;intro J;obtain ⟨n',_,_,h3,h4,h5⟩:=kP hp;apply J;clear J
    simp_all
   have hi:=int_1 (c:=yM c) (by lia) (by lia);refine zD hi (zC (by simp;exact Nat.le_add_left _ _) (zC (by simp;lia) ?_));rw [<- ev];refine nx _ ?_;rw [hs1];unfold kE;rw [decide_eq_true (show 0 < c.w from hw),hp]
  | false =>
   have er':=e2 hp;subst er';refine zC hch (zD (last_at _ _) ⟨.bytes (ink c),0,rfl,xC rfl (zC hch (zD (last_at _ _) ⟨ink c,.int 0,rfl,zC ?_ ?_⟩))⟩)
   ·have:=ink_len hk;lia
   rw [<- ev];refine nx _ ?_;rw [hs1];unfold kE;rw [decide_eq_true (show 0 < c.w from hw),hp]
 ·refine nx _ ?_;rw [hs1];unfold kE;rw [decide_eq_false (show ¬ 0 < c.w from hw)];simp
end
noncomputable def Q557(l:List Cell)(f:Int)(v:V)(σ':List O):Prop:=σ'=S557 f (zM l l.length) (zY l l.length)/\v=.tup [.bytes (zO f.toNat l l.length),.loc 2,.bytes (yF l l.length)]
theorem z557{l:List Cell}(hok:zW l){f:Int}(f0:0<=f)(f4:f<=4)(r:Loc):zI T557 57 (zG 557 0) ((zE 557).drop 2) (M557 (l.map Cell.v) (yF l l.length) r) (S557 f (zM l l.length) (zY l l.length)) (retK (Q557 l f)):=by
 have hb:=qI;have hl:=hok.2;refine Eq.mpr (r557z (l.map Cell.v) ((zM l l.length).map Run.v) (zY l l.length) f (yF l l.length) r (retK (Q557 l f))) ?_;obtain ⟨hro,hrl⟩:=runs_ok hok l.length;refine ⟨by rw [List.length_map];lia,runF f.toNat,fun v hv=>?_,?_⟩
 ·obtain ⟨r,hr,rfl⟩:=List.mem_map.mp hv;have ho:=hro r hr;induction r using Mine.Run.casesOn with
  | many c n =>
   refine ⟨by kernel_rfl,Eq.mpr (r557k c (n:Nat) f _ _ fun u σ'=>u=runF f.toNat (Run.many c n).v/\σ'=S557 f (zM l l.length) (zY l l.length)) ?_⟩;have h1:=ho.2.1;have h2:=ho.2.2;exact qB (decide_eq_true (by simp +arith [*])) ⟨⟨f0,f4,ho.1,by simp_all,by lia⟩,rfl,rfl⟩
  | one b =>
   exact ⟨by kernel_rfl,Eq.mpr (r557j b 0 f _ _ fun u σ'=>u=runF f.toNat (Run.one b).v/\σ'=S557 f (zM l l.length) (zY l l.length)) ⟨rfl,rfl⟩⟩
 ·rw [runF_map];refine zD (byOf_map _) ?_;have e:yT [] ((zM l l.length).map (Run.out f.toNat))=zO f.toNat l l.length:=by rw [joinB_nil];rfl
  refine rwp e ?_;have:=jQ hok f.toNat hl;exact zC (by lia) ⟨rfl,rfl⟩
section
variable{prog:Program}{w:World}{K:Frag}{mb:Str->Option Value}(B:vE prog w K mb)
include B
theorem ok557:SpecOk prog w K mb 105 557 spDue :=
 spec_of2 (R':=70) fun args σ Q h=>by
  replace h:=spDue_of h;apply gk;intro J;obtain ⟨f,vs,rfl,h⟩:=h;apply J;clear J
  ·apply gk;intro J;obtain ⟨l,⟨rfl,hok,f0,f4⟩,q⟩:=h;apply J;clear J;have hl:=hok.2;refine ⟨T557,60,[],[.int f,.lst (l.map Cell.v)],[],Q557 l f,
    B _ _ (zS (ok552 B) (by exact Nat.le_add_left _ _) (zS (ok545 B) (by exact Nat.le_add_left _ _) (zS (ok524 B) (by lia) (zS (ok519 B) (by lia) yK)))),by simp_all,List.nodup_nil,fun _ q=>(nomatch q),⟨trivial,kL _ _,trivial⟩,?_,rfl,fun j X e=>by simp at e,?_,?_⟩
   ·simp only [xZ,ren,yZ _ _ (kL l 0)]
   ·refine fn_in 59 0 rfl rfl (m:=[("cells",.lst (l.map Cell.v))]) (σ1:=[.cell (some (.int f))]) (by kernel_rfl) (by kernel_rfl) (by kernel_rfl) ?_;refine jC 1 2 59 57 rfl rfl (by decide) (by decide +kernel) ?_;rw [r557a];refine zR ?_;refine forE_in 56 rfl (by kernel_rfl) (by kernel_rfl) (Eq.mpr (show _=(V.ty "enumerate" = V.ty "enumerate") from by kernel_rfl) rfl) ?_;refine Eq.mpr (r557e (l.map Cell.v) [] [] f [] _) ?_;refine forX_in 55 rfl (by kernel_rfl) (I557 l f) ⟨⟨[],.inl rfl,rfl⟩,rfl⟩ ?_ ?_
    ·rintro k x m σ' hx ⟨⟨r,hr,rfl⟩,rfl⟩
     apply gk;intro J;obtain ⟨c,hc,rfl⟩:=enum_at hx;apply J;clear J;refine ⟨R557 k c,by kernel_rfl,by kernel_rfl,?_⟩;have e:xN (M557 (l.map Cell.v) (yF l k) r) (R557 k c)=M557 (l.map Cell.v) (yF l k) (R557 k c):=by
      rcases hr with rfl | ⟨a,b,rfl⟩ <;> rfl
     refine rwp e ?_;refine seqP (n:=53) rfl (by decide +kernel) (b557 hok hc (zR ?_));refine seqP (n:=52) rfl (by decide +kernel) (c557 hok hc (zR (d557 hok hc ?_)));exact ⟨⟨_,.inr ⟨_,_,rfl⟩,rfl⟩,rfl⟩
    ·rintro m σ' ⟨⟨r,hr,rfl⟩,rfl⟩
     rw [enum_len,List.length_map];exact zR (z557 hok f0 f4 r)
   ·rintro v σ' ⟨rfl,rfl⟩
    refine ⟨.tup [.bytes (zO f.toNat l l.length),.lst (zY l l.length),.bytes (yF l l.length)],?_,fun j X hj=>absurd hj (Nat.not_lt_zero _),?_⟩
    ·exact ⟨_,rfl,_,_,rfl,⟨trivial,rfl⟩,_,_,rfl,.inr ⟨Nat.zero_le _,_,rfl,clo_flat (fun c=>clo_ask c 0) _,rfl⟩,_,_,rfl,⟨trivial,rfl⟩,rfl⟩
    ·simp only [ren,xZ,zY,yZ _ _ (clo_flat (fun c=>clo_ask c 0) (l.take l.length)),putS];exact q
end
end Mine
end
section
set_option tactic.hygienic false
set_option maxRecDepth 1000000
namespace Mine
noncomputable abbrev T564:Tabs:=jH {}
theorem r564a(b:List UInt8)(P:Fl->Loc->List O->Prop):zI T564 59 (zG 564 0) ((zE 564).take 1) [("octets",.bytes b)] [] P=(P Fl.next [("octets",V.bytes b),("found",V.bytes []),("at",V.int 0)] []):=by kernel_rfl
theorem r564t(b f:List UInt8)(i:Int)(m:Loc)(P:Bool->List O->Prop):wpT T564 56 (zG 564 0) (whT (nth 1 (zE 564))) (("octets",.bytes b)::("found",.bytes f)::("at",.int i)::m) [] P=(chk (decide (b.length<=big)) (P (decide (i < (↑b.length:Int))) [])):=by kernel_rfl
theorem r564z(b f:List UInt8)(i:Int)(m:Loc)(P:Fl->Loc->List O->Prop):zI T564 57 (zG 564 0) ((zE 564).drop 2) (("octets",.bytes b)::("found",.bytes f)::("at",.int i)::m) [] P=(P (Fl.ret (V.bytes f)) (("octets",V.bytes b)::("found",V.bytes f)::("at",V.int i)::m) []):=by kernel_rfl
theorem r564i(b f:List UInt8)(i:Int)(m:Loc)(P:Bool->List O->Prop):wpT T564 54 (zG 564 0) (whT (nth 0 (whB (nth 1 (zE 564))))) (("octets",.bytes b)::("found",.bytes f)::("at",.int i)::m) [] P=(chk (decide (0<=i/\b.length<=1000000000)) (@zB UInt8 b[i.toNat]? fun (val:UInt8)=>P (decide ((↑val.toNat:Int)=27)) [])):=by kernel_rfl
theorem r564e(b f:List UInt8)(i:Int)(m:Loc)(P:Fl->Loc->List O->Prop):zI T564 54 (zG 564 0) (whO (nth 0 (whB (nth 1 (zE 564))))) (("octets",.bytes b)::("found",.bytes f)::("at",.int i)::m) [] P=(chk (decide (b.length<=big)) (chk (decide (f.length+(cut b (some i) (some (i+1))).length<=big)) (P Fl.next (("octets",V.bytes b)::("found",V.bytes (f++cut b (some i) (some (i+1))))::("at",V.int i)::m) []))):=by kernel_rfl
theorem r564n(b f:List UInt8)(i:Int)(m:Loc)(P:Fl->Loc->List O->Prop):zI T564 55 (zG 564 0) ((whB (nth 1 (zE 564))).drop 1) (("octets",.bytes b)::("found",.bytes f)::("at",.int i)::m) [] P=(P Fl.next (("octets",V.bytes b)::("found",V.bytes f)::("at",V.int (i+1))::m) []):=by kernel_rfl
theorem r564m(b f:List UInt8)(i:Int)(P:Fl->Loc->List O->Prop):zI T564 54 (zG 564 0) ((whB (nth 0 (whB (nth 1 (zE 564))))).take 1) [("octets",.bytes b),("found",.bytes f),("at",.int i)] [] P=(P Fl.next [("octets",V.bytes b),("found",V.bytes f),("at",V.int (i+2)),("many",V.int 0)] []):=by kernel_rfl
theorem r564l(b f:List UInt8)(i n:Int)(P:Fl->Loc->List O->Prop):zI T564 54 (zG 564 0) ((whB (nth 0 (whB (nth 1 (zE 564))))).take 1) [("octets",.bytes b),("found",.bytes f),("at",.int i),("many",.int n)] [] P=(P Fl.next [("octets",V.bytes b),("found",V.bytes f),("at",V.int (i+2)),("many",V.int 0)] []):=by kernel_rfl
theorem r564w(b f:List UInt8)(i n:Int)(P:Bool->List O->Prop):wpT T564 51 (zG 564 0) (whT (nth 1 (whB (nth 0 (whB (nth 1 (zE 564))))))) [("octets",.bytes b),("found",.bytes f),("at",.int i),("many",.int n)] [] P=(chk (decide (0<=i/\b.length<=1000000000)) (@zB UInt8 b[i.toNat]? fun (val:UInt8)=>P (!decide ((↑val.toNat:Int)=98)) [])):=by kernel_rfl
theorem r564x(b f:List UInt8)(i n:Int)(P:Fl->Loc->List O->Prop):zI T564 51 (zG 564 0) (whB (nth 1 (whB (nth 0 (whB (nth 1 (zE 564))))))) [("octets",.bytes b),("found",.bytes f),("at",.int i),("many",.int n)] [] P=(chk (decide ((-18446744073709551616:Int) < n/\n < (18446744073709551616:Int)\/(-18446744073709551616:Int) < (10:Int)/\(10:Int) < (18446744073709551616:Int))) (chk (decide ((0:Int)<=i/\b.length<=1000000000)) (@zB UInt8 b[i.toNat]? fun (val:UInt8)=>P Fl.next [("octets",V.bytes b),("found",V.bytes f),("at",V.int (i+(1:Int))),("many",V.int (n*(10:Int)+(↑val.toNat:Int) - (48:Int)))] []))):=by kernel_rfl
theorem r564y(b f:List UInt8)(i n:Int)(P:Fl->Loc->List O->Prop):zI T564 52 (zG 564 0) ((whB (nth 0 (whB (nth 1 (zE 564))))).drop 2) [("octets",.bytes b),("found",.bytes f),("at",.int i),("many",.int n)] [] P=(chk (decide (f.length<=big)) (chk (decide ((cut f (some (-1:Int)) none).length≠0/\(cut f (some (-1:Int)) none).length<=16/\0<=n/\n<=1000000)) (chk (decide (f.length+(List.replicate n.toNat (cut f (some (-1:Int)) none)).flatten.length<=big)) (P Fl.next [("octets",V.bytes b),("found",V.bytes (f++(List.replicate n.toNat (cut f (some (-1:Int)) none)).flatten)),("at",V.int i),("many",V.int n)] [])))):=by kernel_rfl
end Mine
end
section
set_option tactic.hygienic false
namespace Mine
inductive Tk where
 | byte (x:UInt8)
 | esc (n:Nat)
noncomputable def Tk.enc:Tk->List UInt8
 | .byte x=>[x]
 | .esc n=>27::91::(zF n++[98])
noncomputable def jL:List UInt8->List Tk->Option (List UInt8)
 | F,[]=>some F
 | F,.byte x::r=>match decide (x=27) with
  | true=>none
  | false=>jL (F++[x]) r
 | F,.esc n::r=>match F.getLast? with
  | some c=>match decide (n<=1000) with
   | true=>jL (F++List.replicate n c) r
   | false=>none
  | none=>none
noncomputable def spRead:xM:=fun args σ Q=>jY args fun z0=>zB (yS z0) fun b =>
  ∃ ts out,(b=List.flatMap Tk.enc ts/\jL [] ts=some out/\b.length<=1000000/\out.length<=1000000)/\Q (.bytes out) σ
theorem spRead_of{args:List V}{σ:List O}{Q:V->List O->Prop}(hh:spRead args σ Q):∃ b,args=[.bytes b] /\
  (∃ ts out,(b=List.flatMap Tk.enc ts/\jL [] ts=some out/\b.length<=1000000/\out.length<=1000000)/\Q (.bytes out) σ):=by
 obtain ⟨z0,rfl,h⟩:=yC hh;obtain ⟨b,e0,h⟩:=zA h;exact ⟨b,by rw [zZ e0],h⟩
noncomputable def valF:Int->List UInt8->Int
 | a,[]=>a
 | a,d::r=>valF (a*10+(d.toNat:Nat) - 48) r
theorem valF_app:∀ (xs ys:List UInt8) (a:Int),valF a (xs++ys)=valF (valF a xs) ys:=by
 intro zv;induction zv with
 | nil =>
  intro _ _;exact rfl
 | cons x xs ih =>
  intro ys a;exact ih ys _
theorem val_digs(n:Nat):valF 0 (zF n)=n:=by
 induction n using Nat.strongRecOn with
 | ind n ih =>
  rw [qW];split
  ·show (0:Int)*10+((UInt8.ofNat (48+n)).toNat:Nat) - 48=n
   refine rwp UInt8.toNat_ofNat' ?_;refine rwp (Nat.mod_eq_of_lt (by lia)) ?_;lia
  ·rw [valF_app];refine rwp (ih (n / 10) (by lia)) ?_;show ((n / 10:Nat):Int)*10+((UInt8.ofNat (48+n%10)).toNat:Nat) - 48=n
   refine rwp UInt8.toNat_ofNat' ?_;refine rwp (Nat.mod_eq_of_lt (by lia)) ?_;lia
theorem dec_len:∀ (ts:List Tk) (F out:List UInt8),jL F ts=some out->F.length<=out.length
 | [],F,out,h=>by cases h;exact Nat.le_refl _
 | .byte x::r,F,out,h=>by
  rw [jL] at h;split at h
  ·cases h
  ·have:=dec_len r _ _ h;rw [List.length_append] at this;exact Nat.le_of_succ_le (by assumption)
 | .esc n::r,F,out,h=>by
  rw [jL] at h;split at h
  ·split at h
   ·have:=dec_len r _ _ h;rw [List.length_append] at this;lia
   ·cases h
  ·cases h
theorem enc_ne(t:Tk):t.enc≠[]:=by induction t using Mine.Tk.casesOn <;> simp [Tk.enc]
theorem at_drop{b:List UInt8}{i:Nat}{x:UInt8}{r:List UInt8}(h:b.drop i=x::r):b[i]?=some x/\b.drop (i+1)=r/\i < b.length:=by
 have hl:i < b.length:=by
  have:=congrArg List.length h;rw [List.length_drop,List.length_cons] at this;lia
 rw [List.drop_eq_getElem_cons hl] at h
 injection h with h1 h2
 exact ⟨by rw [List.getElem?_eq_getElem hl,h1],h2,hl⟩
theorem cut_one{b:List UInt8}{i:Nat}{x:UInt8}(h:b[i]?=some x):cut b (some (i:Int)) (some ((i:Int)+1))=[x]:=by
 obtain ⟨hl,e⟩:=List.getElem?_eq_some_iff.mp h;unfold cut vB;simp only;refine rwp (if_neg (by simp_all)) ?_;refine rwp (if_neg (by lia)) ?_;refine rwp (show min ((i:Int)+1).toNat b.length=i+1 by lia) ?_;refine rwp (show min (i:Int).toNat b.length=i by lia) ?_;refine rwp List.take_add_one ?_;refine rwp h ?_;refine rwp List.drop_append ?_;refine rwp List.length_take ?_;refine rwp (Nat.min_eq_left (by exact Nat.le_of_succ_le (by assumption))) ?_;refine rwp (List.drop_of_length_le (by rw [List.length_take];lia)) ?_;simp
theorem cut_last{f:List UInt8}{c:UInt8}(h:f.getLast?=some c):cut f (some (-1)) none=[c]:=by
 obtain ⟨g,rfl⟩:∃ g,f=g++[c]:=by
  have hne:f≠[]:=fun e=>by subst e;cases h
  rw [List.getLast?_eq_some_getLast hne] at h;cases h;exact ⟨f.dropLast,(List.dropLast_concat_getLast hne).symm⟩
 unfold cut vB;simp only;refine rwp (if_pos (by decide)) ?_;refine rwp List.take_length ?_;refine rwp List.length_append ?_;refine rwp List.length_singleton ?_;refine rwp (show ((-1:Int)+((g.length+1:Nat):Int)).toNat=g.length by simp +arith [*]) ?_;simp
theorem hd_in{T:Tabs}{F:Fra}{m:Loc}{σ:List O}{Q:Fl->Loc->List O->Prop}{l:List Stmt}{N:Nat}(n:Nat)(hN:N=n+1)(hn:n≠0)(hl:0 < l.length)(h:wpS T n F (nth 0 l) m σ (kN (fun m σ=>zI T n F (l.drop 1) m σ Q) Q)):zI T N F l m σ Q:=by
 subst hN;obtain ⟨n,rfl⟩:=Nat.exists_eq_succ_of_ne_zero hn;induction l using List.casesOn with
 | nil=>cases hl
 | cons s r=>refine rwp wpSs_cons ?_;exact h
noncomputable def M564(b f:List UInt8)(i:Nat)(r:Loc):Loc:=("octets",.bytes b)::("found",.bytes f)::("at",.int (i:Nat))::r
noncomputable def I564(b out:List UInt8)(k:Nat)(m:Loc)(σ:List O):Prop:=σ=[]/\∃ ts F i r,k=List.length ts/\(r=[]\/∃ n,r=([("many",.int n)]:Loc))/\m=M564 b F i r/\b.drop i=List.flatMap Tk.enc ts/\i<=b.length/\jL F ts=some out
section
variable{b out:List UInt8}(hbl:b.length<=1000000)(hol:out.length<=1000000)
include hbl hol
theorem esc564{F:List UInt8}{j n:Nat}{rest:List UInt8}{c:UInt8}{P:Fl->Loc->List O->Prop}(hn:n<=1000)(hF:F.length+n<=1000000)(hc:F.getLast?=some c)(hd:b.drop j=zF n++98::rest)
  (next:∀ (j':Nat) (v:Int),b.drop (j'+1)=rest->j'+1<=b.length->P .next (M564 b (F++List.replicate n c) j' [("many",.int v)]) []) :
  wpS T564 52 (zG 564 0) (nth 1 (whB (nth 0 (whB (nth 1 (zE 564)))))) (M564 b F j [("many",.int 0)]) [] (kN (fun m σ=>zI T564 52 (zG 564 0) ((whB (nth 0 (whB (nth 1 (zE 564))))).drop 2) m σ P) P):=by
 have hb:=qI;refine jI 51 rfl (by kernel_rfl) (by kernel_rfl) (fun k m σ=>σ=[]/\∃ ds j many,k=List.length ds/\m=M564 b F j [("many",.int many)]/\b.drop j=ds++98::rest/\valF many ds=n/\∀ d∈ds,48<=d.toNat/\d.toNat<=57) (zF n).length
  ⟨rfl,zF n,j,0,rfl,rfl,hd,val_digs n,fun d q=>digs_mem q⟩ ?_
 rintro k m σ ⟨rfl,ds,j,many,rfl,rfl,hdr,hv,hds⟩
 refine Eq.mpr (r564w b F (j:Nat) many _) ?_;refine zC ⟨by simp_all,by lia⟩ ?_;induction ds using List.casesOn with
 | nil =>
  obtain ⟨h1,h2,h3⟩:=at_drop (show b.drop j=98::rest from hdr);refine zD h1 (xC rfl (zR ?_));refine Eq.mpr (r564y b F (j:Nat) many _) ?_;have hv:many=n:=hv;subst hv;refine rwp (cut_last hc) ?_;rw [kO];refine rwp (show ((n:Nat):Int).toNat=n from rfl) ?_;refine zC (by lia) (zC ⟨by simp,by simp,by lia,by lia⟩ (zC (by refine rwp List.length_replicate ?_;lia) (next j _ h2 (by assumption))))
 | cons d ds =>
  obtain ⟨h1,h2,h3⟩:=at_drop (show b.drop j=d::(ds++98::rest) from hdr);have hdd:=hds d (.head _);refine zD h1 (qB ?_ ?_)
  ·refine rwp (decide_eq_false (by lia)) ?_;rfl
  refine Eq.mpr (r564x b F (j:Nat) many _) ?_;refine zC (.inr ⟨by decide,by decide⟩) (zC ⟨by lia,by lia⟩ (zD h1 ?_));exact ⟨ds.length,Nat.lt_succ_self _,rfl,ds,j+1,_,rfl,rfl,h2,hv,fun d q=>hds d (.tail _ q)⟩
theorem turn564{ts:List Tk}{F:List UInt8}{i:Nat}{r:Loc}{P:Fl->Loc->List O->Prop}(hr:r=[]\/∃ n,r=([("many",.int n)]:Loc)) (hdr:b.drop i=List.flatMap Tk.enc ts) (hlt:i < b.length) (hdec:jL F ts=some out)
  (next:∀ ts' F' i' r',List.length ts' < ts.length->(r'=[]\/∃ n,r'=([("many",.int n)]:Loc))->b.drop i'=List.flatMap Tk.enc ts'->i'<=b.length->jL F' ts'=some out->P .next (M564 b F' i' r') []) :
  zI T564 56 (zG 564 0) (whB (nth 1 (zE 564))) (M564 b F i r) [] P:=by
 have hb:=qI;have hFl:=dec_len _ _ _ hdec;refine hd_in 55 rfl (by decide) (by decide +kernel) ?_;refine if_in 54 rfl (by kernel_rfl) ?_;refine Eq.mpr (r564i b F (i:Nat) r _) ?_;have go:∀ F' (i':Nat) r' ts',List.length ts' < ts.length->(r'=[]\/∃ n,r'=([("many",.int n)]:Loc))->b.drop (i'+1)=List.flatMap Tk.enc ts'->i'+1<=b.length->jL F' ts'=some out ->
   kN (fun m σ=>zI T564 55 (zG 564 0) ((whB (nth 1 (zE 564))).drop 1) m σ P) P .next (M564 b F' i' r') []:=fun F' i' r' ts' h1 h2 h3 h4 h5=>by
  refine zR ?_;refine Eq.mpr (r564n b F' (i':Nat) r' _) ?_;exact next ts' F' (i'+1) r' h1 h2 h3 h4 h5
 refine zC ⟨by lia,by lia⟩ ?_;refine rwp (show ((i:Nat):Int).toNat=i from rfl) ?_;induction ts using List.casesOn with
 | nil =>
  have:=congrArg List.length hdr;rw [List.length_drop] at this;simp at this;lia
 | cons t ts =>
  induction t using Mine.Tk.casesOn with
  | byte x =>
   apply gk;intro J;obtain ⟨h1,h2,h3⟩:=at_drop (show b.drop i=x::List.flatMap Tk.enc ts from hdr);apply J;clear J;rw [jL] at hdec;split at hdec
   ·cases hdec
   rename_i hx
   have hx:=of_decide_eq_false hx;refine zD h1 (xC (decide_eq_false fun e=>hx (UInt8.toNat_inj.mp (by show x.toNat=27;lia))) ?_);refine Eq.mpr (r564e b F (i:Nat) r _) ?_;refine rwp (cut_one h1) ?_;refine zC (by lia) (zC (by refine rwp List.length_singleton ?_;lia) ?_);exact go (F++[x]) i r ts (Nat.lt_succ_self _) hr h2 (by assumption) hdec
  | esc n =>
   have hdr:b.drop i=27::91::(zF n++98::List.flatMap Tk.enc ts):=by
    refine rwp hdr ?_;refine rwp List.flatMap_cons ?_;simp [Tk.enc]
   apply gk;intro J;obtain ⟨h1,h2,h3⟩:=at_drop hdr;obtain ⟨h4,h5,h6⟩:=at_drop h2;apply J;clear J;rw [jL] at hdec;split at hdec
   ·rename_i c hc
    split at hdec
    ·rename_i hn
     have hn:=of_decide_eq_true hn;have hFo:=dec_len _ _ _ hdec;rw [List.length_append,List.length_replicate] at hFo;refine zD h1 (qB rfl ?_);refine jC 1 2 54 52 rfl rfl (by decide) (by decide +kernel) ?_;have fin:=esc564 hbl hol (P:=kN (fun m σ=>zI T564 55 (zG 564 0) ((whB (nth 1 (zE 564))).drop 1) m σ P) P) (j:=i+1+1) hn (by exact Nat.le_trans (by assumption) (by assumption)) hc h5 fun j' v e1 e2=>by
      exact go _ j' _ ts (Nat.lt_succ_self _) (.inr ⟨v,rfl⟩) e1 e2 hdec
     rcases hr with rfl | ⟨v,rfl⟩
     ·exact Eq.mpr (r564m b F (i:Nat) _) (zR fin)
     ·exact Eq.mpr (r564l b F (i:Nat) v _) (zR fin)
    ·cases hdec
   ·cases hdec
end
section
variable{prog:Program}{w:World}{K:Frag}{mb:Str->Option Value}(B:vE prog w K mb)
include B
theorem ok564:SpecOk prog w K mb 30 564 spRead :=
 xU (R':=0) fun args σ Q h=>by
  replace h:=spRead_of h;apply gk;intro J;obtain ⟨b,rfl,h⟩:=h;apply J;clear J
  ·apply gk;intro J;obtain ⟨ts,out,⟨hb0,hd,hbl,hol⟩,q⟩:=h;apply J;clear J;have hb:=qI;refine ⟨⟨trivial,trivial⟩,T564,60,B _ _ yK,by exact Nat.lt_succ_self _,?_⟩;refine fn_in 59 0 rfl rfl (m:=[("octets",.bytes b)]) (σ1:=[]) (by kernel_rfl) (by kernel_rfl) (by kernel_rfl) ?_;refine jC 1 2 59 57 rfl rfl (by decide) (by decide +kernel) ?_;rw [r564a];refine zR ?_;refine jI 56 rfl (by kernel_rfl) (by kernel_rfl) (I564 b out) ts.length ⟨rfl,ts,[],0,[],rfl,.inl rfl,rfl,by rw [hb0];rfl,Nat.zero_le _,hd⟩ ?_;rintro k m σ' ⟨rfl,ts,F,i,r,rfl,hr,rfl,hdr,hi,hdec⟩
   refine Eq.mpr (r564t b F (i:Nat) r _) ?_;refine zC (by lia) (zX (fun h=>?_) fun h=>?_)
   ·exact turn564 hbl hol hr hdr (by simp_all) hdec fun ts' F' i' r' h1 h2 h3 h4 h5=>⟨_,h1,rfl,ts',F',i',r',rfl,h2,rfl,h3,h4,h5⟩
   ·have e:i=b.length:=by lia
    subst e;rw [List.drop_length] at hdr;induction ts using List.casesOn with
    | cons t ts =>
     rw [List.flatMap_cons] at hdr;exact absurd (List.append_eq_nil_iff.mp hdr.symm).1 (enc_ne t)
    | nil =>
     cases hdec;exact zR (Eq.mpr (r564z b out (b.length:Nat) r _) ⟨trivial,q⟩)
end
end Mine
end
section
set_option tactic.hygienic false
set_option maxRecDepth 1000000
namespace Mine
noncomputable abbrev T500:Tabs:=jH {}
noncomputable abbrev kC:Tabs:=jH { specs:=[(507,spDraw)],views:=[((491,55),5),((493,59),6)] }
theorem r500a(cs:List V)(a b c:O)(P:Fl->Loc->List O->Prop):zI T500 59 (zG 500 3) ((zE 500).take 1) [("script",.lst cs)] [a,b,c] P=(chk (decide (cs.length<=big)) ((cut cs none (some 20)).length<=1000000/\∃ (f:V->V),wpK T500 54 (zP (zG 500 3) { kind:=ScopeKind.function,names:=[(".0",NameKind.local),("cell",NameKind.local)],isGenerator:=false,isCoroutine:=false }) ((Expr.Name "cell" { line:=456,col:=21,endLine:=456,endCol:=25 }).BinOp Operator.Mod ((Expr.Constant (Const.int 10) 0 { line:=456,col:=28,endLine:=456,endCol:=30 }).BinOp Operator.Pow (Expr.Constant (Const.int 40) 0 { line:=456,col:=34,endLine:=456,endCol:=36 }) { line:=456,col:=28,endLine:=456,endCol:=36 }) { line:=456,col:=21,endLine:=456,endCol:=36 }) (Expr.Name "cell" { line:=456,col:=41,endLine:=456,endCol:=45 }) (cut cs none (some 20)) [a,b,c] f/\P Fl.next [("script",V.lst cs),("mixed",V.int 40033),("cells",V.lst (List.map f (cut cs none (some 20))))] [a,b,c])):=by kernel_rfl
theorem r500e(cs l:List V)(x:Int)(a b c:O)(P:V->List O->Prop):wpE T500 56 (zG 500 3) (forI (nth 1 (zE 500))) [("script",.lst cs),("mixed",.int x),("cells",.lst l)] [a,b,c] P=(P (V.lst l) [a,b,c]):=by kernel_rfl
theorem r500b(cs l:List V)(x y:Int)(a b c:O)(P:Fl->Loc->List O->Prop):zI T500 55 (zG 500 3) (whB (nth 1 (zE 500))) [("script",.lst cs),("mixed",.int x),("cells",.lst l),("cell",.int y)] [a,b,c] P=(chk (decide ((-18446744073709551616:Int) < x/\x < (18446744073709551616:Int)\/(-18446744073709551616:Int) < (48271:Int)/\(48271:Int) < (18446744073709551616:Int))) (P Fl.next [("script",V.lst cs),("mixed",V.int ((x*(48271:Int)+y%(2147483629:Int)+(40033:Int))%(2147483587:Int))),("cells",V.lst l),("cell",V.int y)] [a,b,c])):=by kernel_rfl
theorem r500z(cs l:List V)(x:Int)(a b c:O)(m:Loc)(P:Fl->Loc->List O->Prop):zI T500 57 (zG 500 3) ((zE 500).drop 2) (("script",.lst cs)::("mixed",.int x)::("cells",.lst l)::m) [a,b,c] P=(chk (decide (l.length<=big)) (distK [] [V.str "cells",V.str "mixed",V.str "turn"]/\([a,b,c]++[O.dict [] []]++[O.list l.reverse])[[a,b,c].length]?=some (O.dict [] [])/\P (Fl.ret (V.loc [a,b,c].length)) (("script",V.lst cs)::("mixed",V.int x)::("cells",V.lst l)::m) [a,b,c,O.dict [V.str "cells",V.str "mixed",V.str "turn"] [V.loc ([a,b,c]++[O.dict [] []]).length,V.int x,V.int 0],O.list l.reverse])):=by kernel_rfl
theorem r538a(vs:List V)(x t:Int)(P:Fl->Loc->List O->Prop):zI kC 59 (zG 538 2) ((zE 538).take 1) [("deck",.loc 0)] [.dict zH [.loc 1,.int x,.int t],.list vs] P=(P Fl.next [("deck",V.loc 0),("cells",V.loc [O.dict zH [V.loc 1,V.int x,V.int t],O.list vs].length)] [O.dict [V.str "cells",V.str "mixed",V.str "turn"] [V.loc 1,V.int x,V.int t],O.list vs,O.list []]):=by kernel_rfl
theorem r538e(vs cs:List V)(x t:Int)(P:V->List O->Prop):wpE kC 56 (zG 538 2) (forI (nth 1 (zE 538))) [("deck",.loc 0),("cells",.loc 2)] [.dict zH [.loc 1,.int x,.int t],.list vs,.list cs] P=((zH=zH/\0≠1/\(0:Int)<=t/\t < (1000000:Int)/\yA vs/\(0:Int) < (9:Int)/\(9:Int) < (1000000:Int))/\∀ (v:Int) (vs':List V),(0:Int)<=v/\v < (9:Int)/\yA vs'->chk (decide ((0:Int)<=v/\v < (4611686018427387904:Int))) (P (V.rng v) [O.dict [V.str "cells",V.str "mixed",V.str "turn"] [V.loc 1,V.int x,V.int (t+(1:Int))],O.list vs',O.list cs])):=by kernel_rfl
theorem r538b0(vs cs oc:List V)(x t k o s st ow ag:Int)(P:Fl->Loc->List O->Prop):zI kC 55 (zG 538 2) ((whB (nth 1 (zE 538))).take 1) [("deck",.loc 0),("cells",.loc 2),("turn",.int k)] [.dict zH [.loc 1,.int x,.int t],.list vs,.list cs] P=((zH=zH/\0≠1/\(0:Int)<=t/\t < (1000000:Int)/\yA vs/\(0:Int) < (8:Int)/\(8:Int) < (1000000:Int))/\∀ (v:Int) (vs':List V),(0:Int)<=v/\v < (8:Int)/\yA vs'->(zH=zH/\0≠1/\(0:Int)<=t+(1:Int)/\t+(1:Int) < (1000000:Int)/\yA vs'/\(0:Int) < (12:Int)/\(12:Int) < (1000000:Int))/\∀ (v_1:Int) (vs':List V),(0:Int)<=v_1/\v_1 < (12:Int)/\yA vs'->P Fl.next [("deck",V.loc 0),("cells",V.loc 2),("turn",V.int k),("often",V.int ((1:Int)+v_1)),("sort",V.int v)] [O.dict [V.str "cells",V.str "mixed",V.str "turn"] [V.loc 1,V.int x,V.int (t+(1:Int)+(1:Int))],O.list vs',O.list cs]):=by kernel_rfl
theorem r538b1(vs cs oc:List V)(x t k o s st ow ag:Int)(P:Fl->Loc->List O->Prop):zI kC 55 (zG 538 2) ((whB (nth 1 (zE 538))).take 1) [("deck",.loc 0),("cells",.loc 2),("turn",.int k),("often",.int o),("sort",.int s),("step",.int st),("one",.tup [.tup oc,.int ow])] [.dict zH [.loc 1,.int x,.int t],.list vs,.list cs] P=((zH=zH/\0≠1/\(0:Int)<=t/\t < (1000000:Int)/\yA vs/\(0:Int) < (8:Int)/\(8:Int) < (1000000:Int))/\∀ (v:Int) (vs':List V),(0:Int)<=v/\v < (8:Int)/\yA vs'->(zH=zH/\0≠1/\(0:Int)<=t+(1:Int)/\t+(1:Int) < (1000000:Int)/\yA vs'/\(0:Int) < (12:Int)/\(12:Int) < (1000000:Int))/\∀ (v_1:Int) (vs':List V),(0:Int)<=v_1/\v_1 < (12:Int)/\yA vs'->P Fl.next [("deck",V.loc 0),("cells",V.loc 2),("turn",V.int k),("often",V.int ((1:Int)+v_1)),("sort",V.int v),("step",V.int st),("one",V.tup [V.tup oc,V.int ow])] [O.dict [V.str "cells",V.str "mixed",V.str "turn"] [V.loc 1,V.int x,V.int (t+(1:Int)+(1:Int))],O.list vs',O.list cs]):=by kernel_rfl
theorem r538b2(vs cs oc:List V)(x t k o s st ow ag:Int)(P:Fl->Loc->List O->Prop):zI kC 55 (zG 538 2) ((whB (nth 1 (zE 538))).take 1) [("deck",.loc 0),("cells",.loc 2),("turn",.int k),("often",.int o),("sort",.int s),("step",.int st),("one",.tup [.tup oc,.int ow]),("again",.int ag)] [.dict zH [.loc 1,.int x,.int t],.list vs,.list cs] P=((zH=zH/\0≠1/\(0:Int)<=t/\t < (1000000:Int)/\yA vs/\(0:Int) < (8:Int)/\(8:Int) < (1000000:Int))/\∀ (v:Int) (vs':List V),(0:Int)<=v/\v < (8:Int)/\yA vs'->(zH=zH/\0≠1/\(0:Int)<=t+(1:Int)/\t+(1:Int) < (1000000:Int)/\yA vs'/\(0:Int) < (12:Int)/\(12:Int) < (1000000:Int))/\∀ (v_1:Int) (vs':List V),(0:Int)<=v_1/\v_1 < (12:Int)/\yA vs'->P Fl.next [("deck",V.loc 0),("cells",V.loc 2),("turn",V.int k),("often",V.int ((1:Int)+v_1)),("sort",V.int v),("step",V.int st),("one",V.tup [V.tup oc,V.int ow]),("again",V.int ag)] [O.dict [V.str "cells",V.str "mixed",V.str "turn"] [V.loc 1,V.int x,V.int (t+(1:Int)+(1:Int))],O.list vs',O.list cs]):=by kernel_rfl
theorem r538c0(vs cs oc:List V)(x t k o s st ow ag:Int)(P:Fl->Loc->List O->Prop):zI kC 54 (zG 538 2) (((whB (nth 1 (zE 538))).drop 1).take 1) [("deck",.loc 0),("cells",.loc 2),("turn",.int k),("often",.int o),("sort",.int s)] [.dict zH [.loc 1,.int x,.int t],.list vs,.list cs] P=((zH=zH/\0≠1/\(0:Int)<=t/\t < (1000000:Int)/\yA vs/\(0:Int) < (6:Int)/\(6:Int) < (1000000:Int))/\∀ (v:Int) (vs':List V),(0:Int)<=v/\v < (6:Int)/\yA vs'->chk (decide (6<=big/\(0:Int)<=idx 6 v)) (@zB V [V.int (97:Int),V.int (98:Int),V.int (36:Int),V.int (60:Int),V.int (126:Int),V.int (33:Int)][(idx 6 v).toNat]? fun (val:V)=>∃ (n:Int),val=V.int n/\(zH=zH/\0≠1/\(0:Int)<=t+(1:Int)/\t+(1:Int) < (1000000:Int)/\yA vs'/\(0:Int) < (3:Int)/\(3:Int) < (1000000:Int))/\∀ (v:Int) (vs':List V),(0:Int)<=v/\v < (3:Int)/\yA vs'->P Fl.next [("deck",V.loc 0),("cells",V.loc 2),("turn",V.int k),("often",V.int o),("sort",V.int s),("step",V.int v),("one",V.tup [V.tup [V.int n],V.int (1:Int)])] [O.dict [V.str "cells",V.str "mixed",V.str "turn"] [V.loc 1,V.int x,V.int (t+(1:Int)+(1:Int))],O.list vs',O.list cs])):=by kernel_rfl
theorem r538c1(vs cs oc:List V)(x t k o s st ow ag:Int)(P:Fl->Loc->List O->Prop):zI kC 54 (zG 538 2) (((whB (nth 1 (zE 538))).drop 1).take 1) [("deck",.loc 0),("cells",.loc 2),("turn",.int k),("often",.int o),("sort",.int s),("step",.int st),("one",.tup [.tup oc,.int ow])] [.dict zH [.loc 1,.int x,.int t],.list vs,.list cs] P=((zH=zH/\0≠1/\(0:Int)<=t/\t < (1000000:Int)/\yA vs/\(0:Int) < (6:Int)/\(6:Int) < (1000000:Int))/\∀ (v:Int) (vs':List V),(0:Int)<=v/\v < (6:Int)/\yA vs'->chk (decide (6<=big/\(0:Int)<=idx 6 v)) (@zB V [V.int (97:Int),V.int (98:Int),V.int (36:Int),V.int (60:Int),V.int (126:Int),V.int (33:Int)][(idx 6 v).toNat]? fun (val:V)=>∃ (n:Int),val=V.int n/\(zH=zH/\0≠1/\(0:Int)<=t+(1:Int)/\t+(1:Int) < (1000000:Int)/\yA vs'/\(0:Int) < (3:Int)/\(3:Int) < (1000000:Int))/\∀ (v:Int) (vs':List V),(0:Int)<=v/\v < (3:Int)/\yA vs'->P Fl.next [("deck",V.loc 0),("cells",V.loc 2),("turn",V.int k),("often",V.int o),("sort",V.int s),("step",V.int v),("one",V.tup [V.tup [V.int n],V.int (1:Int)])] [O.dict [V.str "cells",V.str "mixed",V.str "turn"] [V.loc 1,V.int x,V.int (t+(1:Int)+(1:Int))],O.list vs',O.list cs])):=by kernel_rfl
theorem r538c2(vs cs oc:List V)(x t k o s st ow ag:Int)(P:Fl->Loc->List O->Prop):zI kC 54 (zG 538 2) (((whB (nth 1 (zE 538))).drop 1).take 1) [("deck",.loc 0),("cells",.loc 2),("turn",.int k),("often",.int o),("sort",.int s),("step",.int st),("one",.tup [.tup oc,.int ow]),("again",.int ag)] [.dict zH [.loc 1,.int x,.int t],.list vs,.list cs] P=((zH=zH/\0≠1/\(0:Int)<=t/\t < (1000000:Int)/\yA vs/\(0:Int) < (6:Int)/\(6:Int) < (1000000:Int))/\∀ (v:Int) (vs':List V),(0:Int)<=v/\v < (6:Int)/\yA vs'->chk (decide (6<=big/\(0:Int)<=idx 6 v)) (@zB V [V.int (97:Int),V.int (98:Int),V.int (36:Int),V.int (60:Int),V.int (126:Int),V.int (33:Int)][(idx 6 v).toNat]? fun (val:V)=>∃ (n:Int),val=V.int n/\(zH=zH/\0≠1/\(0:Int)<=t+(1:Int)/\t+(1:Int) < (1000000:Int)/\yA vs'/\(0:Int) < (3:Int)/\(3:Int) < (1000000:Int))/\∀ (v:Int) (vs':List V),(0:Int)<=v/\v < (3:Int)/\yA vs'->P Fl.next [("deck",V.loc 0),("cells",V.loc 2),("turn",V.int k),("often",V.int o),("sort",V.int s),("step",V.int v),("one",V.tup [V.tup [V.int n],V.int (1:Int)]),("again",V.int ag)] [O.dict [V.str "cells",V.str "mixed",V.str "turn"] [V.loc 1,V.int x,V.int (t+(1:Int)+(1:Int))],O.list vs',O.list cs])):=by kernel_rfl
theorem r538d0(vs cs oc:List V)(x t k o s st ow ag:Int)(P:Fl->Loc->List O->Prop):zI kC 53 (zG 538 2) ((((whB (nth 1 (zE 538))).drop 1).drop 1).take 1) [("deck",.loc 0),("cells",.loc 2),("turn",.int k),("often",.int o),("sort",.int s),("step",.int st),("one",.tup [.tup oc,.int ow])] [.dict zH [.loc 1,.int x,.int t],.list vs,.list cs] P=(ifB (decide (s > (4:Int))) ((zH=zH/\0≠1/\(0:Int)<=t/\t < (1000000:Int)/\yA vs/\(0:Int) < (5:Int)/\(5:Int) < (1000000:Int))/\∀ (v:Int) (vs':List V),(0:Int)<=v/\v < (5:Int)/\yA vs'->chk (decide (5<=big/\(0:Int)<=idx 5 v)) (@zB V [V.tup [V.tup [V.int (32:Int)],V.int (1:Int)],V.tup [V.tup [V.int (97:Int),V.int (769:Int)],V.int (1:Int)],V.tup [V.tup [V.int (127:Int)],V.int (1:Int)],V.tup [V.tup [V.int (8364:Int)],V.int (1:Int)],V.tup [V.tup [V.int (7:Int)],V.int (1:Int)]][(idx 5 v).toNat]? fun (val:V)=>∃ (cs_1:List V),∃ (w:Int),val=V.tup [V.tup cs_1,V.int w]/\P Fl.next [("deck",V.loc 0),("cells",V.loc 2),("turn",V.int k),("often",V.int ((1:Int)+o / (6:Int))),("sort",V.int s),("step",V.int st),("one",V.tup [V.tup cs_1,V.int w])] [O.dict [V.str "cells",V.str "mixed",V.str "turn"] [V.loc 1,V.int x,V.int (t+(1:Int))],O.list vs',O.list cs])) (P Fl.next [("deck",V.loc 0),("cells",V.loc 2),("turn",V.int k),("often",V.int o),("sort",V.int s),("step",V.int st),("one",V.tup [V.tup oc,V.int ow])] [O.dict [V.str "cells",V.str "mixed",V.str "turn"] [V.loc 1,V.int x,V.int t],O.list vs,O.list cs])):=by kernel_rfl
theorem r538d1(vs cs oc:List V)(x t k o s st ow ag:Int)(P:Fl->Loc->List O->Prop):zI kC 53 (zG 538 2) ((((whB (nth 1 (zE 538))).drop 1).drop 1).take 1) [("deck",.loc 0),("cells",.loc 2),("turn",.int k),("often",.int o),("sort",.int s),("step",.int st),("one",.tup [.tup oc,.int ow]),("again",.int ag)] [.dict zH [.loc 1,.int x,.int t],.list vs,.list cs] P=(ifB (decide (s > (4:Int))) ((zH=zH/\0≠1/\(0:Int)<=t/\t < (1000000:Int)/\yA vs/\(0:Int) < (5:Int)/\(5:Int) < (1000000:Int))/\∀ (v:Int) (vs':List V),(0:Int)<=v/\v < (5:Int)/\yA vs'->chk (decide (5<=big/\(0:Int)<=idx 5 v)) (@zB V [V.tup [V.tup [V.int (32:Int)],V.int (1:Int)],V.tup [V.tup [V.int (97:Int),V.int (769:Int)],V.int (1:Int)],V.tup [V.tup [V.int (127:Int)],V.int (1:Int)],V.tup [V.tup [V.int (8364:Int)],V.int (1:Int)],V.tup [V.tup [V.int (7:Int)],V.int (1:Int)]][(idx 5 v).toNat]? fun (val:V)=>∃ (cs_1:List V),∃ (w:Int),val=V.tup [V.tup cs_1,V.int w]/\P Fl.next [("deck",V.loc 0),("cells",V.loc 2),("turn",V.int k),("often",V.int ((1:Int)+o / (6:Int))),("sort",V.int s),("step",V.int st),("one",V.tup [V.tup cs_1,V.int w]),("again",V.int ag)] [O.dict [V.str "cells",V.str "mixed",V.str "turn"] [V.loc 1,V.int x,V.int (t+(1:Int))],O.list vs',O.list cs])) (P Fl.next [("deck",V.loc 0),("cells",V.loc 2),("turn",V.int k),("often",V.int o),("sort",V.int s),("step",V.int st),("one",V.tup [V.tup oc,V.int ow]),("again",V.int ag)] [O.dict [V.str "cells",V.str "mixed",V.str "turn"] [V.loc 1,V.int x,V.int t],O.list vs,O.list cs])):=by kernel_rfl
theorem r538f0(vs cs oc:List V)(x t k o s st ow ag:Int)(P:V->List O->Prop):wpE kC 50 (zG 538 2) (forI (nth 0 ((((whB (nth 1 (zE 538))).drop 1).drop 1).drop 1))) [("deck",.loc 0),("cells",.loc 2),("turn",.int k),("often",.int o),("sort",.int s),("step",.int st),("one",.tup [.tup oc,.int ow])] [.dict zH [.loc 1,.int x,.int t],.list vs,.list cs] P=(ifB (!decide (s=4)) (chk (decide (0<=o/\o < 4611686018427387904)) (P (V.rng o) [O.dict [V.str "cells",V.str "mixed",V.str "turn"] [V.loc 1,V.int x,V.int t],O.list vs,O.list cs])) (chk (decide (0<=1+o / 4/\1+o / 4 < 4611686018427387904)) (P (V.rng (1+o / 4)) [O.dict [V.str "cells",V.str "mixed",V.str "turn"] [V.loc 1,V.int x,V.int t],O.list vs,O.list cs]))):=by kernel_rfl
theorem r538f1(vs cs oc:List V)(x t k o s st ow ag:Int)(P:V->List O->Prop):wpE kC 50 (zG 538 2) (forI (nth 0 ((((whB (nth 1 (zE 538))).drop 1).drop 1).drop 1))) [("deck",.loc 0),("cells",.loc 2),("turn",.int k),("often",.int o),("sort",.int s),("step",.int st),("one",.tup [.tup oc,.int ow]),("again",.int ag)] [.dict zH [.loc 1,.int x,.int t],.list vs,.list cs] P=(ifB (!decide (s=4)) (chk (decide (0<=o/\o < 4611686018427387904)) (P (V.rng o) [O.dict [V.str "cells",V.str "mixed",V.str "turn"] [V.loc 1,V.int x,V.int t],O.list vs,O.list cs])) (chk (decide (0<=1+o / 4/\1+o / 4 < 4611686018427387904)) (P (V.rng (1+o / 4)) [O.dict [V.str "cells",V.str "mixed",V.str "turn"] [V.loc 1,V.int x,V.int t],O.list vs,O.list cs]))):=by kernel_rfl
theorem r538g(vs cs oc:List V)(x t k o s st ow ag:Int)(P:Fl->Loc->List O->Prop):zI kC 49 (zG 538 2) (whB (nth 0 ((((whB (nth 1 (zE 538))).drop 1).drop 1).drop 1))) [("deck",.loc 0),("cells",.loc 2),("turn",.int k),("often",.int o),("sort",.int s),("step",.int st),("one",.tup [.tup oc,.int ow]),("again",.int ag)] [.dict zH [.loc 1,.int x,.int t],.list vs,.list cs] P=(ifB (decide (s=7)) (chk (decide (cs.length+[V.tup [V.tup [V.int 19968],V.int 2,V.int st],V.tup [V.tup [],V.int 0,V.int st]].length < 1000000)) (P Fl.next [("deck",V.loc 0),("cells",V.loc 2),("turn",V.int k),("often",V.int o),("sort",V.int s),("step",V.int st),("one",V.tup [V.tup oc,V.int ow]),("again",V.int ag)] [O.dict [V.str "cells",V.str "mixed",V.str "turn"] [V.loc 1,V.int x,V.int t],O.list vs,O.list (cs++[V.tup [V.tup [V.int 19968],V.int 2,V.int st],V.tup [V.tup [],V.int 0,V.int st]])])) (ifB (decide (s=4)) (chk (decide (cs.length < 1000000)) (P Fl.next [("deck",V.loc 0),("cells",V.loc 2),("turn",V.int k),("often",V.int o),("sort",V.int s),("step",V.int st),("one",V.tup [V.tup oc,V.int ow]),("again",V.int ag)] [O.dict [V.str "cells",V.str "mixed",V.str "turn"] [V.loc 1,V.int x,V.int t],O.list vs,O.list (cs++[V.tup [V.tup [],V.int 1,V.int st]])])) (chk (decide ((-18446744073709551616:Int) < st/\st < 18446744073709551616\/(-18446744073709551616:Int) < ag/\ag < 18446744073709551616)) (chk (decide (cs.length < 1000000)) (P Fl.next [("deck",V.loc 0),("cells",V.loc 2),("turn",V.int k),("often",V.int o),("sort",V.int s),("step",V.int st),("one",V.tup [V.tup oc,V.int ow]),("again",V.int ag)] [O.dict [V.str "cells",V.str "mixed",V.str "turn"] [V.loc 1,V.int x,V.int t],O.list vs,O.list (cs++[V.tup [V.tup oc,V.int ow,V.int (st*ag%3)]])]))))):=by kernel_rfl
theorem r538z(vs cs:List V)(x t:Int)(m:Loc)(P:Fl->Loc->List O->Prop):zI kC 57 (zG 538 2) ((zE 538).drop 2) (("deck",.loc 0)::("cells",.loc 2)::m) [.dict zH [.loc 1,.int x,.int t],.list vs,.list cs] P=(P (Fl.ret (V.loc 2)) (("deck",V.loc 0)::("cells",V.loc 2)::m) [O.dict [V.str "cells",V.str "mixed",V.str "turn"] [V.loc 1,V.int x,V.int t],O.list vs,O.list cs]):=by kernel_rfl
theorem r500k(y:Int)(a b c:O)(P:V->List O->Prop):wpE T500 53 (zP (zG 500 3) (cmpSc (tupAt 0 (expOf (nth 0 (zE 500)))))) (cmpE (tupAt 0 (expOf (nth 0 (zE 500))))) [("cell",.int y)] [a,b,c] P=(P (V.int (y%10000000000000000000000000000000000000000)) [a,b,c]):=by kernel_rfl
end Mine
end
section
set_option tactic.hygienic false
set_option maxHeartbeats 1000000
set_option backward.match.sparseCases false
namespace Mine
noncomputable def spDeck:xM:=fun args σ Q=>jY args fun z=>zB (qE z) fun vs=>qF σ fun a b c=>∃ cs:List Int,(vs=cs.map .int/\cs.length<=1000)/\∀ x vs',yA vs'->Q (.loc 3) [a,b,c,.dict zH [.loc 4,.int x,.int 0],.list vs']
noncomputable def spCells:xM:=fun args σ Q=>jY args fun z=>zB (kU z) fun d=>deckP σ d fun ks l x t vs=>(ks=zH/\d≠l/\0<=t/\t < 1000/\yA vs)/\∀ (cells:List Cell) (t':Int) (vs':List V),(zW cells/\0<=t'/\t' < 2000/\yA vs')->Q (.lst (cells.map Cell.v)) ((σ.set d (.dict ks [.loc l,.int x,.int t'])).set l (.list vs'))
theorem cut_map{α β:Type}(f:α->β)(l:List α)(a b:Option Int):cut (l.map f) a b=(cut l a b).map f:=by
 unfold cut;rw [List.length_map,<- List.map_take,<- List.map_drop]
theorem cut_le{α:Type}(l:List α)(a b:Option Int):(cut l a b).length<=l.length:=by
 refine rwp List.length_drop ?_;refine rwp List.length_take ?_;omega
noncomputable def M500(cs ds:List V)(x:Int)(r:Loc):Loc:=("script",.lst cs)::("mixed",.int x)::("cells",.lst ds)::r
noncomputable def modF:V->V
 | .int y=>.int (y%10000000000000000000000000000000000000000)
 | v=>v
section
variable{prog:Program}{w:World}{K:Frag}{mb:Str->Option Value}(B:vE prog w K mb)
include B
theorem ok500:SpecOk prog w K mb 30 500 spDeck :=
 spec_raw (R':=0) fun args σ Q h=>by
  apply gk;intro J;obtain ⟨z,rfl,h⟩:=yC h;obtain ⟨vs,e0,h⟩:=zA h;obtain ⟨a,b,c,rfl,h⟩:=xT h;apply J;clear J;rw [jA e0];apply gk;intro J;obtain ⟨cs,⟨rfl,hl⟩,q⟩:=h;apply J;clear J;have hb:=qI;have hcl:=cut_le cs none (some (20:Int));refine ⟨T500,60,B _ _ yK,by exact Nat.lt_succ_self _,?_⟩;refine fn_in 59 3 rfl rfl (m:=[("script",.lst (cs.map .int))]) (σ1:=[a,b,c]) (by kernel_rfl) (by kernel_rfl) (by kernel_rfl) ?_;refine jC 1 2 59 57 rfl rfl (by decide) (by decide +kernel) ?_;refine Eq.mpr (r500a (cs.map .int) a b c _) ?_;refine zC (by rw [List.length_map];lia) ⟨by rw [cut_map,List.length_map];lia,modF,fun v hv=>?_,?_⟩
  ·rw [cut_map] at hv;apply gk;intro J;obtain ⟨y,_,rfl⟩:=List.mem_map.mp hv;apply J;clear J;exact ⟨by kernel_rfl,Eq.mpr (r500k y a b c fun u σ'=>u=modF (.int y)/\σ'=[a,b,c]) ⟨rfl,rfl⟩⟩
  have e:(cut (cs.map V.int) none (some (20:Int))).map modF=((cut cs none (some (20:Int))).map fun y=>y%10000000000000000000000000000000000000000).map V.int:=by
   rw [cut_map,List.map_map,List.map_map];rfl
  rw [e];generalize hds:(cut cs none (some (20:Int))).map (fun y=>y%10000000000000000000000000000000000000000)=ds;have hdl:ds.length<=cs.length:=by rw [<- hds,List.length_map];simp_all
  refine zR ?_;refine for_in 56 rfl (by kernel_rfl) ?_;refine Eq.mpr (r500e (cs.map .int) (ds.map .int) 40033 a b c _) ?_;refine forX_in 55 rfl (by kernel_rfl) (fun k m σ=>(∃ x r,(r=[]\/∃ v,r=([("cell",v)]:Loc))/\m=M500 (cs.map .int) (ds.map .int) x r)/\σ=[a,b,c]) ⟨⟨40033,[],.inl rfl,rfl⟩,rfl⟩ ?_ ?_
  ·intro k v m σ' hx zq;apply gk;intro J;obtain ⟨⟨x,r,hr,rfl⟩,rfl⟩:=zq;apply J;clear J;apply gk;intro J;obtain ⟨y,hy,rfl⟩:∃ y,ds[k]?=some y/\v=.int y:=by
    rw [List.getElem?_map] at hx;obtain ⟨y,h1,h2⟩:=Option.map_eq_some_iff.mp hx;exact ⟨y,h1,h2.symm⟩
   apply J;clear J;refine ⟨[("cell",.int y)],by kernel_rfl,by kernel_rfl,?_⟩;have e:xN (M500 (cs.map .int) (ds.map .int) x r) [("cell",.int y)]=M500 (cs.map .int) (ds.map .int) x [("cell",.int y)]:=by
    rcases hr with rfl | ⟨v,rfl⟩ <;> rfl
   rw [e];refine Eq.mpr (r500b (cs.map .int) (ds.map .int) x y a b c _) ?_;exact zC (.inr ⟨by decide,by decide⟩) ⟨⟨_,_,.inr ⟨_,rfl⟩,rfl⟩,rfl⟩
  ·intro m σ' zq;apply gk;intro J;obtain ⟨⟨x,r,hr,rfl⟩,rfl⟩:=zq;apply J;clear J;refine zR (Eq.mpr (r500z (cs.map .int) (ds.map .int) x a b c r _) ?_);refine zC (by rw [List.length_map];lia) ⟨⟨by kernel_rfl,by kernel_rfl,by kernel_rfl,trivial⟩,rfl,?_⟩;have h20:ds.length<=20:=by
    rw [<- hds,List.length_map];unfold cut vB;simp only [List.drop_zero,List.length_take];rw [if_neg (by decide)];lia
   exact q x _ ⟨ds.reverse,by rw [List.map_reverse],by rw [List.length_reverse];lia⟩
end
noncomputable def OneOk(oc:List V)(ow:Int):Prop:=∃ cs:List Int,oc=cs.map .int/\∀ p,Cell.Ok ⟨cs,ow,p⟩
theorem ok_not{cs:List Int}{w p:Int}(h1:cs.length<=2)(h2:∀ n∈cs,0<=n/\n < 1000000)(h3:Cell.plain ⟨cs,w,p⟩=false):Cell.Ok ⟨cs,w,p⟩:=⟨h1,h2,fun h=>by rw [h3] at h;cases h⟩
theorem ok_code{n:Int}{w p:Int}(h:n∈codesI):Cell.Ok ⟨[n],w,p⟩:=by
 refine ⟨by simp,fun m hm=>?_,fun _=>⟨n,rfl,h⟩⟩;rw [List.mem_singleton] at hm;subst hm;simp only [codesI,List.mem_cons,List.not_mem_nil,or_false] at h;lia
theorem nn{a:Int}(h:0<=a)(n:Nat):idx n a=a:=jT h
theorem code_at{v:Int}(h0:0<=v)(h1:v < 6):∃ n,[V.int 97,V.int 98,V.int 36,V.int 60,V.int 126,V.int 33][(idx 6 v).toNat]?=some (V.int n)/\n∈codesI:=by
 refine rwp (jT h0) ?_;obtain ⟨k,rfl⟩:=Int.eq_ofNat_of_zero_le h0;have hk:k < 6:=by lia
 refine rwp (show ((k:Nat):Int).toNat=k from rfl) ?_
 match k,hk with
 | 0,_=>exact ⟨97,rfl,by decide⟩
 | 1,_=>exact ⟨98,rfl,by decide⟩
 | 2,_=>exact ⟨36,rfl,by decide⟩
 | 3,_=>exact ⟨60,rfl,by decide⟩
 | 4,_=>exact ⟨126,rfl,by decide⟩
 | 5,_=>exact ⟨33,rfl,by decide⟩
theorem other_at{v:Int}(h0:0<=v)(h1:v < 5):∃ oc ow,[V.tup [V.tup [V.int 32],V.int 1],V.tup [V.tup [V.int 97,V.int 769],V.int 1],V.tup [V.tup [V.int 127],V.int 1],V.tup [V.tup [V.int 8364],V.int 1],V.tup [V.tup [V.int 7],V.int 1]][(idx 5 v).toNat]?=some (V.tup [.tup oc,.int ow])/\OneOk oc ow:=by
 refine rwp (jT h0) ?_;obtain ⟨k,rfl⟩:=Int.eq_ofNat_of_zero_le h0;have hk:k < 5:=by lia
 refine rwp (show ((k:Nat):Int).toNat=k from rfl) ?_
 match k,hk with
 | 0,_=>exact ⟨_,_,rfl,[32],rfl,fun p=>ok_not (by simp) (by simp) rfl⟩
 | 1,_=>exact ⟨_,_,rfl,[97,769],rfl,fun p=>ok_not (by simp) (by simp) rfl⟩
 | 2,_=>exact ⟨_,_,rfl,[127],rfl,fun p=>ok_not (by simp) (by simp) rfl⟩
 | 3,_=>exact ⟨_,_,rfl,[8364],rfl,fun p=>ok_not (by simp) (by simp) rfl⟩
 | 4,_=>exact ⟨_,_,rfl,[7],rfl,fun p=>ok_not (by simp) (by simp) rfl⟩
noncomputable def qX(x t:Int)(vs:List V)(cs:List Cell):List O:=[.dict zH [.loc 1,.int x,.int t],.list vs,.list (cs.map Cell.v)]
noncomputable def qR(r:Loc):Loc:=("deck",.loc 0)::("cells",.loc 2)::r
noncomputable def R538(k o s st:Int)(oc:List V)(ow:Int)(g:Loc):Loc:=("turn",.int k)::("often",.int o)::("sort",.int s)::("step",.int st)::("one",.tup [.tup oc,.int ow])::g
noncomputable def AgR(g:Loc):Prop:=g=[]\/∃ a,g=([("again",.int a)]:Loc)
noncomputable def TlR(r:Loc):Prop:=r=[]\/∃ k o s st oc ow g,AgR g/\r=R538 k o s st oc ow g
noncomputable def LenOk(n:Nat)(cs:List Cell):Prop:=(∀ c∈cs,c.Ok)/\cs.length<=n
noncomputable def I538(x t0:Int)(k:Nat)(m:Loc)(σ:List O):Prop:=∃ r t vs cs,TlR r/\m=qR r/\σ=qX x t vs cs/\t0<=t/\t<=t0+6*k/\yA vs/\LenOk (24*k) cs
theorem len_add{n:Nat}{cs:List Cell}{d:List Cell}(h:LenOk n cs)(hd:∀ c∈d,c.Ok):LenOk (n+d.length) (cs++d) :=
 ⟨fun c q=>(List.mem_append.mp q).elim (h.1 c) (hd c),by refine rwp List.length_append ?_;exact Nat.add_le_add_right h.2 _⟩
section
variable{x t0:Int}(ht0:0<=t0)(ht1:t0 < 1500){P:Fl->Loc->List O->Prop}
include ht0 ht1
theorem g538{t k o s st ow ag:Int}{oc vs:List V}{cs:List Cell}(h0:0<=st/\st < 3)(h1:OneOk oc ow)(hl:cs.length < 900)
  (next:∀ d:List Cell,(∀ c∈d,c.Ok)->d.length<=2->P .next (qR (R538 k o s st oc ow [("again",.int ag)])) (qX x t vs (cs++d))) :
  zI kC 49 (zG 538 2) (whB (nth 0 ((((whB (nth 1 (zE 538))).drop 1).drop 1).drop 1))) (qR (R538 k o s st oc ow [("again",.int ag)])) (qX x t vs cs) P:=by
 refine Eq.mpr (r538g vs (cs.map Cell.v) oc x t k o s st ow ag P) ?_;apply gk;intro J;obtain ⟨os,rfl,hos⟩:=h1;apply J;clear J;have nx:∀ d:List Cell,(∀ c∈d,c.Ok)->d.length<=2->P .next (qR (R538 k o s st (os.map .int) ow [("again",.int ag)])) [.dict zH [.loc 1,.int x,.int t],.list vs,.list (cs.map Cell.v++d.map Cell.v)]:=fun d a b=>by
  have:=next d a b;unfold qX at this
  rwa [List.map_append] at this
 refine zX (fun _=>?_) fun _=>?_
 ·refine zC (by simp only [List.length_map,List.length_cons,List.length_nil];lia) ?_;refine nx [⟨[19968],2,st⟩,⟨[],0,st⟩] (fun c hc=>?_) (by simp);simp only [List.mem_cons,List.not_mem_nil,or_false] at hc;rcases hc with rfl | rfl
  ·exact ok_not (by simp) (by simp) rfl
  ·exact ok_not (by simp) (by simp) rfl
 ·refine zX (fun _=>?_) fun _=>?_
  ·refine zC (by rw [List.length_map];lia) ?_;refine nx [⟨[],1,st⟩] (fun c hc=>?_) (by simp);rw [List.mem_singleton] at hc;subst hc;exact ok_not (by simp) (by simp) rfl
  ·refine zC (.inl ⟨by lia,by lia⟩) (zC (by rw [List.length_map];lia) ?_);refine nx [⟨os,ow,st*ag%3⟩] (fun c hc=>?_) (by simp);rw [List.mem_singleton] at hc;subst hc;exact hos _
theorem f538{t k o s st ow:Int}{oc vs:List V}{cs:List Cell}{n:Nat}{g:Loc}(hg:AgR g)(h0:0<=st/\st < 3)(h1:OneOk oc ow)(ho:1<=o/\o<=12)(hl:LenOk n cs)(hn:n+24 < 900)
  (next:∀ g cs',AgR g->LenOk (n+24) cs'->P .next (qR (R538 k o s st oc ow g)) (qX x t vs cs')) :
  zI kC 52 (zG 538 2) ((((whB (nth 1 (zE 538))).drop 1).drop 1).drop 1) (qR (R538 k o s st oc ow g)) (qX x t vs cs) P:=by
 refine hd_in 51 rfl (by decide) (by decide +kernel) ?_;refine for_in 50 rfl (by kernel_rfl) ?_;have loop:∀ N:Int,0<=N->N<=12->wpX kC 50 (zG 538 2) (whL (nth 0 ((((whB (nth 1 (zE 538))).drop 1).drop 1).drop 1))) (forT (nth 0 ((((whB (nth 1 (zE 538))).drop 1).drop 1).drop 1))) ((List.range N.toNat).map fun i=>V.int (i:Nat))
   (whB (nth 0 ((((whB (nth 1 (zE 538))).drop 1).drop 1).drop 1))) (qR (R538 k o s st oc ow g)) (qX x t vs cs) (kN (fun m σ=>zI kC 51 (zG 538 2) (((((whB (nth 1 (zE 538))).drop 1).drop 1).drop 1).drop 1) m σ P) P):=fun N n0 n1=>by
  refine forX_in 49 rfl (by kernel_rfl) (fun j m σ=>∃ g cs',AgR g/\m=qR (R538 k o s st oc ow g)/\σ=qX x t vs cs'/\LenOk (n+2*j) cs'/\j<=12) ⟨g,cs,hg,rfl,rfl,hl,by exact Nat.zero_le _⟩ ?_ ?_
  ·intro j v m σ hx zq;apply gk;intro J;obtain ⟨g,cs',hg,rfl,rfl,hl',hj⟩:=zq;apply J;clear J;have hjN:j < N.toNat:=by
    have:=(List.getElem?_eq_some_iff.mp hx).1;simpa using this
   obtain rfl:v=.int (j:Nat):=by
    rw [List.getElem?_map,List.getElem?_range hjN] at hx;simpa using hx.symm
   refine ⟨[("again",.int (j:Nat))],by kernel_rfl,by kernel_rfl,?_⟩;have e:xN (qR (R538 k o s st oc ow g)) [("again",.int (j:Nat))]=qR (R538 k o s st oc ow [("again",.int (j:Nat))]):=by
    rcases hg with rfl | ⟨a,rfl⟩ <;> rfl
   refine rwp e ?_;refine g538 ht0 ht1 h0 h1 (by have:=hl'.2;lia) fun d hd1 hd2=>⟨_,_,.inr ⟨_,rfl⟩,rfl,rfl,?_,by lia⟩
   have:=len_add hl' hd1;exact ⟨this.1,by have:=this.2;lia⟩
  ·intro m σ zq;apply gk;intro J;obtain ⟨g,cs',hg,rfl,rfl,hl',hj⟩:=zq;apply J;clear J;exact zR (next g cs' hg ⟨hl'.1,by have:=hl'.2;lia⟩)
 have fin:∀ P':V->List O->Prop,(∀ N:Int,0<=N->N<=12->P' (.rng N) (qX x t vs cs))->wpE kC 50 (zG 538 2) (forI (nth 0 ((((whB (nth 1 (zE 538))).drop 1).drop 1).drop 1))) (qR (R538 k o s st oc ow g)) (qX x t vs cs) P':=fun P' hP=>by
  have key:(ifB (!decide (s=(4:Int))) (chk (decide ((0:Int)<=o/\o < (4611686018427387904:Int))) (P' (V.rng o) (qX x t vs cs))) (chk (decide ((0:Int)<=(1:Int)+o / (4:Int)/\(1:Int)+o / (4:Int) < (4611686018427387904:Int))) (P' (V.rng ((1:Int)+o / (4:Int))) (qX x t vs cs)))) :=
   vA (fun _=>zC ⟨by lia,by lia⟩ (hP _ (by lia) (by simp_all))) fun _=>zC ⟨by lia,by lia⟩ (hP _ (by lia) (by lia))
  rcases hg with rfl | ⟨a,rfl⟩
  ·exact Eq.mpr (r538f0 vs (cs.map Cell.v) oc x t k o s st ow 0 P') key
  ·exact Eq.mpr (r538f1 vs (cs.map Cell.v) oc x t k o s st ow a P') key
 exact fin _ loop
theorem turn538{t:Int}{k:Nat}{r:Loc}{vs:List V}{cs:List Cell}{n:Nat}(hr:r=[]\/∃ o s st oc ow g,AgR g/\r=(("often",.int o)::("sort",.int s)::("step",.int st)::("one",.tup [.tup oc,.int ow])::g:Loc)) (h0:0<=t) (h1:t < 9000) (hi:yA vs) (hl:LenOk n cs) (hn:n+24 < 900)
  (next:∀ r t' vs' cs',TlR r->t<=t'->t'<=t+6->yA vs'->LenOk (n+24) cs'->P .next (qR r) (qX x t' vs' cs')) :
  zI kC 55 (zG 538 2) (whB (nth 1 (zE 538))) (qR (("turn",.int (k:Nat))::r)) (qX x t vs cs) P:=by
 have dk:∀ {t:Int} {vs:List V} {b:Int},0<=t->t < 1000000->yA vs->0 < b->b < 1000000->zH=zH/\(0:Nat)≠(1:Nat)/\0<=t/\t < 1000000/\yA vs/\0 < b/\b < 1000000:=fun a b c d e=>⟨rfl,by decide,a,b,c,d,e⟩
 have third:∀ (t' o s st:Int) (oc:List V) (ow:Int) (g:Loc) (vs':List V),AgR g->0<=st/\st < 3->OneOk oc ow->1<=o/\o<=12->t<=t'->t'<=t+5->yA vs' ->
   zI kC 53 (zG 538 2) (((whB (nth 1 (zE 538))).drop 1).drop 1) (qR (R538 k o s st oc ow g)) (qX x t' vs' cs) P:=fun t' o s st oc ow g vs' hg hst hone ho ht1' ht2' hi'=>by
  refine seqP (n:=51) rfl (by decide +kernel) ?_;have go:∀ (t'' o':Int) (oc':List V) (ow':Int) (vs'':List V),OneOk oc' ow'->1<=o'/\o'<=12->t<=t''->t''<=t+6->yA vs''->∀ g,AgR g ->
    kN (fun m σ=>zI kC 52 (zG 538 2) ((((whB (nth 1 (zE 538))).drop 1).drop 1).drop 1) m σ P) P .next (qR (R538 k o' s st oc' ow' g)) (qX x t'' vs'' cs):=fun t'' o' oc' ow' vs'' h1 h2 h3 h4 h5 g hg=>by
   refine zR (f538 ht0 ht1 hg hst h1 h2 hl hn fun g cs' hg hl'=>?_);exact next _ t'' vs'' cs' (.inr ⟨_,_,_,_,_,_,_,hg,rfl⟩) h3 h4 h5 hl'
  rcases hg with rfl | ⟨a,rfl⟩
  ·refine Eq.mpr (r538d0 vs' (cs.map Cell.v) oc x t' k o s st ow 0 _) ?_;refine zX (fun _=>⟨dk (by lia) (by lia) hi' (by decide) (by decide),fun v vs'' zz0=>?_⟩) fun _=>go _ _ _ _ _ hone ho ht1' (by lia) hi' _ (.inl rfl);apply gk;intro J;obtain ⟨v0,v1,hv⟩:=zz0;obtain ⟨oc',ow',e1,e2⟩:=other_at v0 v1;apply J;clear J;refine zC ⟨by have:=qI;exact Nat.le_add_left _ _,by refine rwp (jT v0) ?_;exact v0⟩ (zD e1 ⟨oc',ow',rfl,?_⟩);exact go _ _ _ _ _ e2 ⟨by lia,by lia⟩ (by lia) (by lia) hv _ (.inl rfl)
  ·refine Eq.mpr (r538d1 vs' (cs.map Cell.v) oc x t' k o s st ow a _) ?_;refine zX (fun _=>⟨dk (by lia) (by lia) hi' (by decide) (by decide),fun v vs'' zz0=>?_⟩) fun _=>go _ _ _ _ _ hone ho ht1' (by lia) hi' _ (.inr ⟨a,rfl⟩);apply gk;intro J;obtain ⟨v0,v1,hv⟩:=zz0;obtain ⟨oc',ow',e1,e2⟩:=other_at v0 v1;apply J;clear J;refine zC ⟨by have:=qI;lia,by refine rwp (jT v0) ?_;exact v0⟩ (zD e1 ⟨oc',ow',rfl,?_⟩);exact go _ _ _ _ _ e2 ⟨by lia,by lia⟩ (by lia) (by lia) hv _ (.inr ⟨a,rfl⟩)
 have second:∀ (t' o s:Int) (r':Loc) (vs':List V),(r'=[]\/∃ st oc ow g,AgR g/\r'=(("step",.int st)::("one",.tup [.tup oc,.int ow])::g:Loc))->1<=o/\o<=12->t<=t'->t'<=t+3->yA vs' ->
   zI kC 54 (zG 538 2) ((whB (nth 1 (zE 538))).drop 1) (qR (("turn",.int (k:Nat))::("often",.int o)::("sort",.int s)::r')) (qX x t' vs' cs) P:=fun t' o s r' vs' hr' ho a1 a2 hi'=>by
  refine seqP (n:=52) rfl (by decide +kernel) ?_;have go:∀ g,AgR g->∀ (v:Int) (vs'':List V),0<=v/\v < 6/\yA vs''->chk (decide ((6:Nat)<=big/\(0:Int)<=idx (6:Nat) v))
    (@zB V [V.int (97:Int),V.int (98:Int),V.int (36:Int),V.int (60:Int),V.int (126:Int),V.int (33:Int)][(idx (6:Nat) v).toNat]? fun (val:V)=>∃ (n:Int),val=V.int n /\
     (zH=zH/\(0:Nat)≠(1:Nat)/\(0:Int)<=t'+(1:Int)/\t'+(1:Int) < (1000000:Int)/\yA vs''/\(0:Int) < (3:Int)/\(3:Int) < (1000000:Int))/\∀ (v:Int) (vs':List V),(0:Int)<=v/\v < (3:Int)/\yA vs' ->
      kN (fun m σ=>zI kC 53 (zG 538 2) (((whB (nth 1 (zE 538))).drop 1).drop 1) m σ P) P .next (qR (R538 k o s v [.int n] 1 g)) (qX x (t'+1+1) vs' cs)):=fun g hg v vs'' ⟨v0,v1,hv⟩=>by
   apply gk;intro J;obtain ⟨n,e1,e2⟩:=code_at v0 v1;apply J;clear J;refine zC ⟨by have:=qI;exact Nat.le_add_left _ _,by refine rwp (jT v0) ?_;exact v0⟩ (zD e1 ⟨n,rfl,dk (by lia) (by lia) hv (by decide) (by decide),fun st vs3 ⟨s0,s1,hv3⟩=>zR ?_⟩);exact third _ _ _ _ _ _ _ _ hg ⟨s0,s1⟩ ⟨[n],rfl,fun p=>ok_code e2⟩ ho (by lia) (by lia) hv3
  rcases hr' with rfl | ⟨st,oc,ow,g,rfl | ⟨a,rfl⟩,rfl⟩
  ·exact Eq.mpr (r538c0 vs' (cs.map Cell.v) [] x t' k o s 0 0 0 _) ⟨dk (by lia) (by lia) hi' (by decide) (by decide),go [] (.inl rfl)⟩
  ·exact Eq.mpr (r538c1 vs' (cs.map Cell.v) oc x t' k o s st ow 0 _) ⟨dk (by lia) (by lia) hi' (by decide) (by decide),go [] (.inl rfl)⟩
  ·exact Eq.mpr (r538c2 vs' (cs.map Cell.v) oc x t' k o s st ow a _) ⟨dk (by lia) (by lia) hi' (by decide) (by decide),go _ (.inr ⟨a,rfl⟩)⟩
 refine seqP (n:=53) rfl (by decide +kernel) ?_;have go:∀ r',(r'=[]\/∃ st oc ow g,AgR g/\r'=(("step",.int st)::("one",.tup [.tup oc,.int ow])::g:Loc))->∀ (v:Int) (vs':List V),0<=v/\v < 8/\yA vs' ->
   (zH=zH/\(0:Nat)≠(1:Nat)/\(0:Int)<=t+(1:Int)/\t+(1:Int) < (1000000:Int)/\yA vs'/\(0:Int) < (12:Int)/\(12:Int) < (1000000:Int))/\∀ (v_1:Int) (vs':List V),(0:Int)<=v_1/\v_1 < (12:Int)/\yA vs' ->
    kN (fun m σ=>zI kC 54 (zG 538 2) ((whB (nth 1 (zE 538))).drop 1) m σ P) P .next (qR (("turn",.int (k:Nat))::("often",.int (1+v_1))::("sort",.int v)::r')) (qX x (t+1+1) vs' cs):=fun r' hr' v vs' ⟨v0,v1,hv⟩ =>
  ⟨dk (by lia) (by lia) hv (by decide) (by decide),fun v' vs'' ⟨w0,w1,hw⟩=>zR (second _ _ _ _ _ hr' ⟨by lia,by lia⟩ (by lia) (by lia) hw)⟩
 rcases hr with rfl | ⟨o,s,st,oc,ow,g,rfl | ⟨a,rfl⟩,rfl⟩
 ·exact Eq.mpr (r538b0 vs (cs.map Cell.v) [] x t k 0 0 0 0 0 _) ⟨dk (by lia) (by lia) hi (by decide) (by decide),go [] (.inl rfl)⟩
 ·exact Eq.mpr (r538b1 vs (cs.map Cell.v) oc x t k o s st ow 0 _) ⟨dk (by omega) (by grind only) hi (by decide) (by decide),go _ (.inr ⟨_,_,_,_,.inl rfl,rfl⟩)⟩
 ·exact Eq.mpr (r538b2 vs (cs.map Cell.v) oc x t k o s st ow a _) ⟨dk (by omega) (by grind only) hi (by decide) (by decide),go _ (.inr ⟨_,_,_,_,.inr ⟨a,rfl⟩,rfl⟩)⟩
end
theorem cells_back{σ:List O}{d l:Nat}{ks:List V}{x t t':Int}{vs':List V}{cs:List Cell}{Q:V->List O->Prop}(hk:yR 0 ks)(hc:yR 0 vs')
  (q:Q (.lst (cs.map Cell.v)) ((σ.set d (.dict ks [.loc l,.int x,.int t'])).set l (.list vs'))):Post [d,l] σ Q (.loc 2) [.dict ks [.loc 1,.int x,.int t'],.list vs',.list (cs.map Cell.v)]:=by
 refine ⟨.lst (cs.map Cell.v),.inr ⟨Nat.le_refl _,_,rfl,kL _ _,rfl⟩,fun j X hj h=>?_,?_⟩
 ·match j,hj,h with
  | 0,_,h=>cases h;exact ⟨xP _ hk,by show 1 < 2;exact Nat.lt_succ_self _,trivial,trivial,trivial⟩
  | 1,_,h=>cases h;exact xP _ hc
 ·show Q (ren _ (.lst (cs.map Cell.v))) (putS [d,l] σ [d,l] [.dict ks [.loc 1,.int x,.int t'],.list vs'])
  simp only [putS,renO,yZ _ _ hk,yZ _ _ hc,ren,yZ _ _ (kL cs 0)];exact q
section
variable{prog:Program}{w:World}{K:Frag}{mb:Str->Option Value}(B:vE prog w K mb)
include B
theorem ok538:SpecOk prog w K mb 65 538 spCells :=
 spec_of (R':=30) fun args σ Q h=>by
  apply gk;intro J;obtain ⟨z,rfl,h⟩:=yC h;obtain ⟨d,e0,h⟩:=zA h;apply J;clear J;refine rwp (yV e0) ?_;apply gk;intro J;obtain ⟨ks,l,x,t,vs,hd,hl,h⟩:=deckP_of h;obtain ⟨⟨rfl,hne,t0,t1,hi⟩,q⟩:=h;apply J;clear J;have hk:yR 0 zH:=⟨trivial,trivial,trivial,trivial⟩
  have hcl:=fun k=>ints_clo hi k;refine ⟨kC,60,[d,l],[.loc 0],[.dict zH [.loc 1,.int x,.int t],.list vs],B _ _ (zS (ok507 B) (by exact Nat.le_refl _) yK),by simp_all,by simp [hne],?_,?_,rfl,rfl,?_,?_⟩
  ·intro i hi;simp only [List.mem_cons,List.not_mem_nil,or_false] at hi;rcases hi with rfl | rfl
   ·exact (List.getElem?_eq_some_iff.mp hd).1
   ·exact (List.getElem?_eq_some_iff.mp hl).1
  ·exact ⟨by show 0 < 2;exact Nat.le_succ _,trivial⟩
  ·intro j X hX
   match j,hX with
   | 0,hX=>cases hX;exact ⟨⟨xP _ hk,by show 1 < 2;lia,trivial,trivial,trivial⟩,hd⟩
   | 1,hX=>cases hX;exact ⟨hcl 2,by simp only [renO,yZ _ _ (hcl 0)];exact hl⟩
  refine fn_in 59 2 rfl rfl (m:=[("deck",.loc 0)]) (σ1:=[.dict zH [.loc 1,.int x,.int t],.list vs]) (by kernel_rfl) (by kernel_rfl) (by kernel_rfl) ?_;refine jC 1 2 59 57 rfl rfl (by decide) (by decide +kernel) ?_;refine Eq.mpr (r538a vs x t _) (zR ?_);refine for_in 56 rfl (by kernel_rfl) ?_;refine Eq.mpr (r538e vs [] x t _) ⟨⟨rfl,by decide,t0,by lia,hi,by decide,by decide⟩,fun v vs' ⟨v0,v1,hv⟩=>zC ⟨v0,by lia⟩ ?_⟩;refine forX_in 55 rfl (by kernel_rfl) (I538 x (t+1)) ⟨[],t+1,vs',[],.inl rfl,rfl,rfl,by simp_all,by simp_all,hv,fun c hc=>(nomatch hc),by simp⟩ ?_ ?_
  ·intro k u m σ' hx zq;apply gk;intro J;obtain ⟨r,t',vs2,cs,hr,rfl,rfl,h1,h2,h3,h4⟩:=zq;apply J;clear J;have hkN:k < v.toNat:=by
    have:=(List.getElem?_eq_some_iff.mp hx).1;simpa using this
   obtain rfl:u=.int (k:Nat):=by
    rw [List.getElem?_map,List.getElem?_range hkN] at hx;simpa using hx.symm
   refine ⟨[("turn",.int (k:Nat))],by kernel_rfl,by kernel_rfl,?_⟩;obtain ⟨r',e,hr'⟩:∃ r',xN (qR r) [("turn",.int (k:Nat))]=qR (("turn",.int (k:Nat))::r')/\(r'=[]\/∃ o s st oc ow g,AgR g/\r'=(("often",.int o)::("sort",.int s)::("step",.int st)::("one",.tup [.tup oc,.int ow])::g:Loc)):=by
    rcases hr with rfl | ⟨k',o,s,st,oc,ow,g,hg,rfl⟩
    ·exact ⟨[],rfl,.inl rfl⟩
    ·exact ⟨_,rfl,.inr ⟨o,s,st,oc,ow,g,hg,rfl⟩⟩
   refine rwp e ?_;refine turn538 (t0:=t+1) (by grind only) (by omega) hr' (by lia) (by grind only) h3 h4 (by grind only) fun r t'' vs3 cs' a1 a2 a3 a4 a5=>?_;exact ⟨r,t'',vs3,cs',a1,rfl,rfl,by lia,by lia,a4,a5.1,by have:=a5.2;omega⟩
  ·intro m σ' zq;apply gk;intro J;obtain ⟨r,t',vs2,cs,hr,rfl,rfl,h1,h2,h3,h4⟩:=zq;apply J;clear J;have hN:((List.range v.toNat).map fun i=>V.int (i:Nat)).length<=8:=by simp;lia
   refine zR (Eq.mpr (r538z vs2 (cs.map Cell.v) x t' r _) ?_);exact cells_back (t:=t) hk (ints_clo h3 0) (q cs t' vs2 ⟨⟨h4.1,by have:=h4.2;lia⟩,by lia,by lia,h3⟩)
end
end Mine
end
section
set_option tactic.hygienic false
set_option backward.match.sparseCases false
namespace Mine
noncomputable def lawB:List Stmt:=lawFi.body
noncomputable def jS:Fra:=⟨lawFi.scope.names,cellsFrom 1 lawFi.scope.names [],some "law.<locals>."⟩
noncomputable def lamE:PySem.Expr->PySem.Expr
 | .Lambda _ b _ _=>b
 | e=>e
noncomputable def lamS:PySem.Expr->Scope
 | .Lambda _ _ sc _=>sc
 | _=>default
noncomputable def qG:PySem.Expr:=argAt 2 (expOf (nth 8 lawB))
noncomputable def cloL(q:Str):O:=.clo q "codes" (lamS qG) (lamE qG) [("notes",2)]
noncomputable def CapsL(σ:List O)(form:Nat)(ps:List (Int×Int)):Prop:=σ[13]?=some (.inst 405 12)/\σ[12]?=some (.attrs xF [.loc 11,.loc 14])/\σ[11]?=some (.inst 470 10)/\σ[10]?=some (.attrs xB (yW (xY form)))/\σ[14]?=some (yO form ps)/\form<=4/\yH ps
theorem CapsL.in{σ:List O}{form:Nat}{ps:List (Int×Int)}:CapsL σ form ps->CapsIn σ 13 14 form ps:=fun ⟨h0,h1,h2,h3,h4,hf,hk⟩=>⟨12,11,10,by decide,h0,h1,h2,h3,h4,hf,hk⟩
noncomputable def spRepL:xM:=fun args σ Q=>qF args fun z0 z1 z2=>zB (kU z0) fun cp=>zB (zL z1) fun c=>zB (zL z2) fun m =>
  ∃ form ps,(cp=13/\CapsL σ form ps/\c∈codesI/\0<=m/\m<=1000)/\∀ ps',yH ps'->Q (.bytes (rep form (UInt8.ofNat c.toNat) m.toNat)) (σ.set 14 (yO form ps'))
theorem spRepL_of{args:List V}{σ:List O}{Q:V->List O->Prop}(hh:spRepL args σ Q):∃ cp c m,args=[.loc cp,.int c,.int m] /\
  (∃ form ps,(cp=13/\CapsL σ form ps/\c∈codesI/\0<=m/\m<=1000)/\∀ ps',yH ps'->Q (.bytes (rep form (UInt8.ofNat c.toNat) m.toNat)) (σ.set 14 (yO form ps'))):=by
 apply gk;intro J;obtain ⟨z0,z1,z2,rfl,h⟩:=xT hh;obtain ⟨cp,e0,h⟩:=zA h;obtain ⟨c,e1,h⟩:=zA h;obtain ⟨m,e2,h⟩:=zA h;apply J;clear J;exact ⟨cp,c,m,by rw [yV e0,zJ e1,zJ e2],h⟩
noncomputable def spRunsL:xM:=fun args σ Q=>qF args fun z0 z1 wr=>zB (kU z0) fun cp=>zB (qE z1) fun vs=>∃ form ps l,(cp=13/\vs=List.map Cell.v l/\zW l/\CapsL σ form ps)/\match wr with
  | .ref f=>f=524/\∀ ps',yH ps'->Q (.bytes (zO form l l.length)) (σ.set 14 (yO form ps'))
  | .loc j=>j=17/\∃ b0 b1 b3 b4 b5 b6 b7 b8 b9 b10 b11 b12 b13 b14 b15 q,σ=[b0,b1,.cell (some (.loc 16)),b3,b4,b5,b6,b7,b8,b9,b10,b11,b12,b13,b14,b15,.list [],cloL q] /\
   ∀ ps',yH ps'->Q (.bytes (zO form l l.length)) [b0,b1,.cell (some (.loc 16)),b3,b4,b5,b6,b7,b8,b9,b10,b11,b12,b13,yO form ps',b15,.list (zY l l.length),cloL q]
  | _=>False
noncomputable abbrev TL:Tabs:=jH { specs:=[(500,spDeck),(507,spDraw),(444,spRepL),(519,spRepd),(538,spCells),(557,spDue),(451,spRunsL),(564,spRead),(552,spGoes),(524,spOth)],unroll:=[552],views:=[((537,43),5)] }
noncomputable abbrev kD:Tabs:=jH { specs:=[(437,spPl),(444,spRepL),(524,spOth)],views:=[((429,30),1),((431,80),1),((433,58),5)] }
end Mine
end
section
set_option tactic.hygienic false
set_option maxRecDepth 1000000
namespace Mine
theorem r451a(cp:Nat)(cs:List V)(wr:V)(σ:List O)(P:Fl->Loc->List O->Prop):zI kD 59 (zG 451 0) ((zE 451).take 1) [("caps",.loc cp),("cells",.lst cs),("written",wr)] σ P=(P Fl.next [("caps",V.loc cp),("cells",V.lst cs),("written",wr),("found",V.bytes []),("at",V.int 0)] σ):=by kernel_rfl
theorem r451t(cp:Nat)(cs:List V)(wr:V)(f:List UInt8)(i:Int)(σ:List O)(m:Loc)(P:Bool->List O->Prop):wpT kD 56 (zG 451 0) (whT (nth 1 (zE 451))) (("caps",.loc cp)::("cells",.lst cs)::("written",wr)::("found",.bytes f)::("at",.int i)::m) σ P=(chk (decide (cs.length<=big)) (P (decide (i < (↑cs.length:Int))) σ)):=by kernel_rfl
theorem r451z(cp:Nat)(cs:List V)(wr:V)(f:List UInt8)(i:Int)(σ:List O)(m:Loc)(P:Fl->Loc->List O->Prop):zI kD 57 (zG 451 0) ((zE 451).drop 2) (("caps",.loc cp)::("cells",.lst cs)::("written",wr)::("found",.bytes f)::("at",.int i)::m) σ P=(P (Fl.ret (V.bytes f)) (("caps",V.loc cp)::("cells",V.lst cs)::("written",wr)::("found",V.bytes f)::("at",V.int i)::m) σ):=by kernel_rfl
theorem r451b0(cp:Nat)(l:List V)(wr:V)(f:List UInt8)(i:Int)(σ:List O)(P:Fl->Loc->List O->Prop):zI kD 56 (zG 451 0) ((whB (nth 1 (zE 451))).take 1) [("caps",.loc cp),("cells",.lst l),("written",wr),("found",.bytes f),("at",.int i)] σ P=(chk (decide (l.length<=big/\0<=idx l.length i)) (@zB V l[(idx l.length i).toNat]? fun (val:V)=>∃ (cs:List V),∃ (w:Int),∃ (p:Int),val=V.tup [V.tup cs,V.int w,V.int p]/\P Fl.next [("caps",V.loc cp),("cells",V.lst l),("written",wr),("found",V.bytes f),("at",V.int i),("end",V.int (i+1)),("cell",V.tup [V.tup cs,V.int w,V.int p])] σ)):=by kernel_rfl
theorem r451b1(cp:Nat)(l:List V)(wr:V)(f:List UInt8)(i:Int)(σ:List O)(c e:V)(P:Fl->Loc->List O->Prop):zI kD 56 (zG 451 0) ((whB (nth 1 (zE 451))).take 1) [("caps",.loc cp),("cells",.lst l),("written",wr),("found",.bytes f),("at",.int i),("end",e),("cell",c)] σ P=(chk (decide (l.length<=big/\0<=idx l.length i)) (@zB V l[(idx l.length i).toNat]? fun (val:V)=>∃ (cs:List V),∃ (w:Int),∃ (p:Int),val=V.tup [V.tup cs,V.int w,V.int p]/\P Fl.next [("caps",V.loc cp),("cells",V.lst l),("written",wr),("found",V.bytes f),("at",V.int i),("end",V.int (i+1)),("cell",V.tup [V.tup cs,V.int w,V.int p])] σ)):=by kernel_rfl
theorem r451i(cp:Nat)(l:List V)(wr:V)(f:List UInt8)(i:Int)(σ:List O)(cs:List V)(w p e:Int)(P:Bool->List O->Prop):wpT kD 53 (zG 451 0) (whT (nth 1 (whB (nth 1 (zE 451))))) [("caps",.loc cp),("cells",.lst l),("written",wr),("found",.bytes f),("at",.int i),("end",.int e),("cell",.tup [.tup cs,.int w,.int p])] σ P=((∃ (c:Cell),V.tup [V.tup cs,V.int w,V.int p]=c.v/\c.Ok)/\P (jW (V.tup [V.tup cs,V.int w,V.int p])) σ):=by kernel_rfl
theorem r451w(cp:Nat)(l:List V)(wr:V)(f:List UInt8)(i:Int)(σ:List O)(cs:List V)(w p e:Int)(P:Bool->List O->Prop):wpT kD 51 (zG 451 0) (whT (nth 0 (whB (nth 1 (whB (nth 1 (zE 451))))))) [("caps",.loc cp),("cells",.lst l),("written",wr),("found",.bytes f),("at",.int i),("end",.int e),("cell",.tup [.tup cs,.int w,.int p])] σ P=(chk (decide (l.length<=big)) (ifB (decide (e < (↑l.length:Int))) (chk (decide (l.length<=big/\0<=idx l.length e)) (@zB V l[(idx l.length e).toNat]? fun (val:V)=>(∃ (c:Cell),val=c.v/\c.Ok)/\ifB (jW val) (chk (decide (l.length<=big/\0<=idx l.length e)) (@zB V l[(idx l.length e).toNat]? fun (val:V)=>∃ (cs_1:List V),∃ (w:Int),∃ (p:Int),val=V.tup [V.tup cs_1,V.int w,V.int p]/\chk (zV 9 cs_1&&zV 9 cs) (@zB Bool (eqL cs_1 cs) fun (val:Bool)=>ifB val (P (BoolOp.And==BoolOp.And) σ) (P false σ)))) (P false σ))) (P false σ))):=by kernel_rfl
theorem r451x(cp:Nat)(l:List V)(wr:V)(f:List UInt8)(i:Int)(σ:List O)(cs:List V)(w p e:Int)(P:Fl->Loc->List O->Prop):zI kD 51 (zG 451 0) (whB (nth 0 (whB (nth 1 (whB (nth 1 (zE 451))))))) [("caps",.loc cp),("cells",.lst l),("written",wr),("found",.bytes f),("at",.int i),("end",.int e),("cell",.tup [.tup cs,.int w,.int p])] σ P=(P Fl.next [("caps",V.loc cp),("cells",V.lst l),("written",wr),("found",V.bytes f),("at",V.int i),("end",V.int (e+1)),("cell",V.tup [V.tup cs,V.int w,V.int p])] σ):=by kernel_rfl
theorem r451y(cp:Nat)(l:List V)(wr:V)(f:List UInt8)(i:Int)(σ:List O)(cs:List V)(w p e:Int)(P:Fl->Loc->List O->Prop):zI kD 52 (zG 451 0) ((whB (nth 1 (whB (nth 1 (zE 451))))).drop 1) [("caps",.loc cp),("cells",.lst l),("written",wr),("found",.bytes f),("at",.int i),("end",.int e),("cell",.tup [.tup cs,.int w,.int p])] σ P=(@zB V cs[Int.toNat 0]? fun (val:V)=>∃ (n:Int),val=V.int n/\∃ (form:Nat),∃ (ps:List (Int×Int)),(cp=13/\CapsL σ form ps/\n∈codesI/\0<=e - i/\e - i<=1000)/\∀ (ps':List (Int×Int)),yH ps'->chk (decide (f.length+(rep form (UInt8.ofNat n.toNat) (e - i).toNat).length<=big)) (P Fl.next [("caps",V.loc cp),("cells",V.lst l),("written",wr),("found",V.bytes (f++rep form (UInt8.ofNat n.toNat) (e - i).toNat)),("at",V.int i),("end",V.int e),("cell",V.tup [V.tup cs,V.int w,V.int p])] (σ.set 14 (yO form ps')))):=by kernel_rfl
theorem r451n(cp:Nat)(l:List V)(wr:V)(f:List UInt8)(i:Int)(σ:List O)(cs:List V)(w p e:Int)(P:Fl->Loc->List O->Prop):zI kD 54 (zG 451 0) ((whB (nth 1 (zE 451))).drop 2) [("caps",.loc cp),("cells",.lst l),("written",wr),("found",.bytes f),("at",.int i),("end",.int e),("cell",.tup [.tup cs,.int w,.int p])] σ P=(P Fl.next [("caps",V.loc cp),("cells",V.lst l),("written",wr),("found",V.bytes f),("at",V.int e),("end",V.int e),("cell",V.tup [V.tup cs,V.int w,V.int p])] σ):=by kernel_rfl
theorem r451o(cp:Nat)(l:List V)(f:List UInt8)(i:Int)(σ:List O)(cs:List V)(w p e:Int)(P:Fl->Loc->List O->Prop):zI kD 53 (zG 451 0) (whO (nth 1 (whB (nth 1 (zE 451))))) [("caps",.loc cp),("cells",.lst l),("written",.ref 524),("found",.bytes f),("at",.int i),("end",.int e),("cell",.tup [.tup cs,.int w,.int p])] σ P=(ifB (decide (w > 0)) (chk (zV 9 cs&&zV 9 []) (@zB Bool (eqL cs []) fun (val:Bool)=>ifB (!val) (∃ (cs_1:List Int),(cs=List.map V.int cs_1/\1<=cs_1.length/\cs_1.length<=2/\∀ (n:Int),n∈cs_1->0<=n/\n < 1000000)/\chk (decide (f.length+(othB cs_1).length<=big)) (P Fl.next [("caps",V.loc cp),("cells",V.lst l),("written",V.ref 524),("found",V.bytes (f++othB cs_1)),("at",V.int i),("end",V.int e),("cell",V.tup [V.tup cs,V.int w,V.int p])] σ)) (chk (decide (f.length+1<=big)) (P Fl.next [("caps",V.loc cp),("cells",V.lst l),("written",V.ref 524),("found",V.bytes (f++[32])),("at",V.int i),("end",V.int e),("cell",V.tup [V.tup cs,V.int w,V.int p])] σ)))) (P Fl.next [("caps",V.loc cp),("cells",V.lst l),("written",V.ref 524),("found",V.bytes f),("at",V.int i),("end",V.int e),("cell",V.tup [V.tup cs,V.int w,V.int p])] σ)):=by kernel_rfl
theorem r451c(cp:Nat)(l ns:List V)(f:List UInt8)(i:Int)(b0 b1 b3 b4 b5 b6 b7 b8 b9 b10 b11 b12 b13 b14 b15:O)(q:Str)(cs:List V)(w p e:Int)(P:Fl->Loc->List O->Prop):zI kD 53 (zG 451 0) (whO (nth 1 (whB (nth 1 (zE 451))))) [("caps",.loc cp),("cells",.lst l),("written",.loc 17),("found",.bytes f),("at",.int i),("end",.int e),("cell",.tup [.tup cs,.int w,.int p])] [b0,b1,.cell (some (.loc 16)),b3,b4,b5,b6,b7,b8,b9,b10,b11,b12,b13,b14,b15,.list ns,cloL q] P=(ifB (decide (w > 0)) (chk (zV 9 cs&&zV 9 []) (@zB Bool (eqL cs []) fun (val:Bool)=>ifB (!val) (("notes" == "__classdict__")=false/\chk (decide (ns.length < 1000000)) (∃ (cs_1:List Int),(cs=List.map V.int cs_1/\1<=cs_1.length/\cs_1.length<=2/\∀ (n:Int),n∈cs_1->0<=n/\n < 1000000)/\chk (decide (f.length+(othB cs_1).length<=big)) (P Fl.next [("caps",V.loc cp),("cells",V.lst l),("written",V.loc 17),("found",V.bytes (f++othB cs_1)),("at",V.int i),("end",V.int e),("cell",V.tup [V.tup cs,V.int w,V.int p])] [b0,b1,O.cell (some (V.loc 16)),b3,b4,b5,b6,b7,b8,b9,b10,b11,b12,b13,b14,b15,O.list (ns++[V.tup cs]),O.clo q "codes" (lamS qG) (lamE qG) [("notes",2)]]))) (chk (decide (f.length+1<=big)) (P Fl.next [("caps",V.loc cp),("cells",V.lst l),("written",V.loc 17),("found",V.bytes (f++[32])),("at",V.int i),("end",V.int e),("cell",V.tup [V.tup cs,V.int w,V.int p])] [b0,b1,O.cell (some (V.loc 16)),b3,b4,b5,b6,b7,b8,b9,b10,b11,b12,b13,b14,b15,O.list ns,O.clo q "codes" (lamS qG) (lamE qG) [("notes",2)]])))) (P Fl.next [("caps",V.loc cp),("cells",V.lst l),("written",V.loc 17),("found",V.bytes f),("at",V.int i),("end",V.int e),("cell",V.tup [V.tup cs,V.int w,V.int p])] [b0,b1,O.cell (some (V.loc 16)),b3,b4,b5,b6,b7,b8,b9,b10,b11,b12,b13,b14,b15,O.list ns,O.clo q "codes" (lamS qG) (lamE qG) [("notes",2)]])):=by kernel_rfl
end Mine
end
section
set_option tactic.hygienic false
set_option maxHeartbeats 1000000
set_option backward.match.sparseCases false
namespace Mine
noncomputable abbrev B451:List Stmt:=whB (nth 1 (zE 451))
noncomputable def M451(vs:List V)(wr:V)(f:List UInt8)(k:Nat)(r:Loc):Loc:=("caps",.loc 13)::("cells",.lst vs)::("written",wr)::("found",.bytes f)::("at",.int (k:Nat))::r
noncomputable def R451(e:Nat)(c:Cell):Loc:=[("end",.int (e:Nat)),("cell",.tup [.tup (c.cs.map .int),.int c.w,.int c.p])]
noncomputable def qA(c:Cell):List UInt8:=match decide (0 < c.w) with
 | true=>ink c
 | false=>[]
structure Fam(form:Nat)(l:List Cell)(wr:V)(st:Nat->List (Int×Int)->List O):Prop where
 caps:∀ k ps,yH ps->CapsL (st k ps) form ps
 set:∀ k ps ps',(st k ps).set 14 (yO form ps')=st k ps'
 plain:∀ k c ps,l[k]?=some c->c.plain=true->st (k+1) ps=st k ps
 other:∀ k c ps f P,l[k]?=some c->c.plain=false->f.length+(qA c).length<=big->P .next (M451 (l.map Cell.v) wr (f++qA c) k (R451 (k+1) c)) (st (k+1) ps) ->
  zI kD 53 (zG 451 0) (whO (nth 1 B451)) (M451 (l.map Cell.v) wr f k (R451 (k+1) c)) (st k ps) P
theorem out_succ{form:Nat}{l:List Cell}{k:Nat}{c:Cell}(hc:l[k]?=some c)(hp:c.plain=false):zO form l (k+1)=zO form l k++qA c/\zT l (k+1)=false:=by
 have hg:zT l k=false:=by
  cases h:zT l k with
  | false=>rfl
  | true=>have:=(jU h).2.1;rw [yJ hc,hp] at this;cases this
 refine ⟨?_,?_⟩
 ·unfold zO;refine rwp (yY hc) ?_;refine rwp hg ?_;show (vD c _).flatMap _=_
  unfold qA;by_cases hw:0 < c.w
  ·rw [addR_w hp hw];refine rwp List.flatMap_append ?_;refine rwp (decide_eq_true hw) ?_;simp [Run.out]
  ·rw [addR_n hp hw];refine rwp (decide_eq_false hw) ?_;simp
 ·cases h:zT l (k+1) with
  | false=>rfl
  | true=>have:=(jU h).2.2.1;rw [Nat.add_sub_cancel,yJ hc,hp] at this;cases this
noncomputable def I451(form:Nat)(l:List Cell)(wr:V)(st:Nat->List (Int×Int)->List O)(K:Nat)(m:Loc)(σ:List O):Prop :=
 ∃ k ps r,K=l.length - k/\k<=l.length/\zT l k=false/\(r=[]\/∃ a b,r=([("end",a),("cell",b)]:Loc))/\m=M451 (l.map Cell.v) wr (zO form l k) k r/\σ=st k ps/\yH ps
section
variable{form:Nat}{l:List Cell}{wr:V}{st:Nat->List (Int×Int)->List O}(hF:Fam form l wr st)(hok:zW l)
include hF hok
theorem run451{k:Nat}{c:Cell}{ps:List (Int×Int)}{P:Fl->Loc->List O->Prop}(hc:l[k]?=some c)(hp:c.plain=true)(hg:zT l k=false)(hk:yH ps)
  (next:∀ e ps',k < e->e<=l.length->zT l e=false->yH ps'->P .next (M451 (l.map Cell.v) wr (zO form l e) k (R451 e c)) (st e ps')) :
  zI kD 53 (zG 451 0) (whB (nth 1 B451)) (M451 (l.map Cell.v) wr (zO form l k) k (R451 (k+1) c)) (st k ps) P:=by
 have hb:=qI;have hl:=hok.2;have hkl:k < l.length:=(List.getElem?_eq_some_iff.mp hc).1;have hck:=qZ hok hc;apply gk;intro J;obtain ⟨n,hn1,hn2,hn3,hn4,hn5⟩:=kP hp;apply J;clear J;refine hd_in 52 rfl (by decide) (by decide +kernel) ?_;refine jI 51 rfl (by kernel_rfl) (by kernel_rfl) (fun K m σ=>∃ e,K=l.length - e/\k < e/\e<=l.length/\m=M451 (l.map Cell.v) wr (zO form l k) k (R451 e c)/\σ=st k ps/\st e ps=st k ps/\zM l e=zM l k++[.many (yM c) (e - k)] /\
   jB l (e - 1)=true/\csAt l (e - 1)=c.cs) (l.length - (k+1))
  ⟨k+1,rfl,by exact Nat.lt_succ_self _,by assumption,rfl,rfl,hF.plain k c ps hc hp,by rw [yY hc,hg];show vD c _=_;rw [addR_p hp,show k+1 - k=1 by simp_all],by rw [Nat.add_sub_cancel,yJ hc,hp],by rw [Nat.add_sub_cancel,kJ hc]⟩ ?_
 intro K m σ zq;apply gk;intro J;obtain ⟨e,rfl,he1,he2,rfl,rfl,hst,hr,hpl,hcs⟩:=zq;apply J;clear J;refine Eq.mpr (r451w 13 (l.map Cell.v) wr (zO form l k) (k:Nat) (st k ps) (c.cs.map .int) c.w c.p (e:Nat) _) ?_;rw [List.length_map];have leave:zT l e=false->(kN (fun m σ=>zI kD 52 (zG 451 0) ((whB (nth 1 B451)).drop 1) m σ P) P) .next (M451 (l.map Cell.v) wr (zO form l k) k (R451 e c)) (st k ps):=fun hge=>by
  refine zR (Eq.mpr (r451y 13 (l.map Cell.v) wr (zO form l k) (k:Nat) (st k ps) (c.cs.map .int) c.w c.p (e:Nat) _) ?_);have ho:=jQ hok form (k:=k) (by lia);refine zD (a:=.int n) (by rw [hn1];rfl) ⟨n,rfl,form,ps,⟨rfl,hF.caps k ps hk,by rw [<- hn5];exact code_in hp hck,by lia,by lia⟩,fun ps' hk'=>?_⟩;have hrl:=rep_len form (UInt8.ofNat n.toNat) ((e:Int) - (k:Nat)).toNat;refine zC (by lia) ?_;have eo:zO form l e=zO form l k++rep form (UInt8.ofNat n.toNat) ((e:Int) - (k:Nat)).toNat:=by
   unfold zO;rw [hr,List.flatMap_append,hn5,show ((e:Int) - (k:Nat)).toNat=e - k by simp_all];simp [Run.out]
  have:=next e ps' he1 he2 hge hk';have es:st e ps'=st k ps':=by rw [<- hF.set e ps ps',hst,hF.set]
  rw [eo,es,<- hF.set k ps ps'] at this;exact this
 refine zC (by lia) (zX (fun h=>?_) fun h=>?_)
 ·have hel:e < l.length:=by simp_all
  obtain ⟨d,hd⟩:∃ d,l[e]?=some d:=⟨_,List.getElem?_eq_getElem hel⟩
  rw [jT (show (0:Int)<=(e:Nat) by simp_all),show ((e:Nat):Int).toNat=e from rfl];refine zC ⟨by lia,by lia⟩ (zD (map_at hd) ⟨⟨d,rfl,qZ hok hd⟩,?_⟩);rw [kK];have eg:zT l e=(d.plain&&decide (d.cs=c.cs)):=by
   unfold zT;rw [decide_eq_true (by lia),yJ hd,hpl,kJ hd,hcs,Bool.true_and,Bool.true_and];congr 1
   rw [decide_eq_decide];exact eq_comm
  refine vA (fun hdp=>?_) fun hdp=>?_
  ·refine zC ⟨by lia,by lia⟩ (zD (map_at hd) ⟨_,_,_,rfl,xD (by rw [xS,xS];rfl) (zD (eq_ints2 _ _) (zX (fun hq=>?_) fun hq=>?_))⟩)
   ·
    have hge:zT l e=true:=by rw [eg,hdp,decide_eq_true hq];rfl
    refine qB rfl ?_;refine Eq.mpr (r451x 13 (l.map Cell.v) wr (zO form l k) (k:Nat) (st k ps) (c.cs.map .int) c.w c.p (e:Nat) _) ?_;refine ⟨l.length - (e+1),by lia,e+1,rfl,by lia,by assumption,rfl,rfl,by rw [hF.plain e d ps hd hdp,hst],?_,by rw [Nat.add_sub_cancel,yJ hd,hdp],by rw [Nat.add_sub_cancel,kJ hd,hq]⟩;rw [yY hd,hge];show bump (zM l e)=_
    rw [hr,qO,show e+1 - k=e - k+1 by lia];rfl
   ·exact xC rfl (leave (by rw [eg,hdp,decide_eq_false hq];rfl))
  ·exact xC rfl (leave (by rw [eg,hdp];rfl))
 ·refine xC rfl (leave ?_);unfold zT jB;rw [List.getElem?_eq_none (by simp_all)];simp
theorem turn451{k:Nat}{ps:List (Int×Int)}{r:Loc}{P:Fl->Loc->List O->Prop}(hr:r=[]\/∃ a b,r=([("end",a),("cell",b)]:Loc)) (hkl:k < l.length) (hg:zT l k=false) (hk:yH ps)
  (next:∀ e ps' r',k < e->e<=l.length->zT l e=false->yH ps'->(r'=[]\/∃ a b,r'=([("end",a),("cell",b)]:Loc))->P .next (M451 (l.map Cell.v) wr (zO form l e) e r') (st e ps')) :
  zI kD 56 (zG 451 0) B451 (M451 (l.map Cell.v) wr (zO form l k) k r) (st k ps) P:=by
 have hb:=qI;have hl:=hok.2;obtain ⟨c,hc⟩:∃ c,l[k]?=some c:=⟨_,List.getElem?_eq_getElem hkl⟩
 have hck:=qZ hok hc;refine jC 1 2 56 54 rfl rfl (by decide) (by decide +kernel) ?_;have go:(kN (fun m σ=>wpS kD 54 (zG 451 0) (nth 1 B451) m σ (kN (fun m σ=>zI kD 54 (zG 451 0) (B451.drop 2) m σ P) P)) P) .next (M451 (l.map Cell.v) wr (zO form l k) k (R451 (k+1) c)) (st k ps):=by
  refine zR ?_;have last:∀ e ps',k < e->e<=l.length->zT l e=false->yH ps'->(kN (fun m σ=>zI kD 54 (zG 451 0) (B451.drop 2) m σ P) P) .next (M451 (l.map Cell.v) wr (zO form l e) k (R451 e c)) (st e ps'):=fun e ps' h1 h2 h3 h4=>by
   refine zR (Eq.mpr (r451n 13 (l.map Cell.v) wr (zO form l e) (k:Nat) (st e ps') (c.cs.map .int) c.w c.p (e:Nat) P) ?_);exact next e ps' (R451 e c) h1 h2 h3 h4 (.inr ⟨_,_,rfl⟩)
  refine if_in 53 rfl (by kernel_rfl) ?_;refine Eq.mpr (r451i 13 (l.map Cell.v) wr (zO form l k) (k:Nat) (st k ps) (c.cs.map .int) c.w c.p ((k+1:Nat):Int) _) ⟨cell_in hck,?_⟩;rw [plainOf_t];refine vA (fun hp=>?_) fun hp=>?_
  ·exact run451 hF hok hc hp hg hk last
  ·obtain ⟨e1,e2⟩:=out_succ (form:=form) hc hp;have ho:=jQ hok form (k:=k) (by lia);have hi:(qA c).length<=30:=by
    unfold qA;split
    ·exact ink_len hck
    ·simp
   refine hF.other k c ps (zO form l k) _ hc hp (by lia) ?_;refine rwp e1.symm ?_;exact last (k+1) ps (by lia) (by lia) e2 hk
 have ck:(l.map Cell.v).length<=big/\(0:Int)<=idx (l.map Cell.v).length (k:Nat):=⟨by rw [List.length_map];lia,by refine rwp (jT (by lia)) ?_;lia⟩
 have at':(l.map Cell.v)[(idx (l.map Cell.v).length (k:Nat)).toNat]?=some c.v:=by refine rwp (jT (by lia)) ?_;exact map_at hc
 rcases hr with rfl | ⟨a,b,rfl⟩
 ·exact Eq.mpr (r451b0 13 (l.map Cell.v) wr (zO form l k) (k:Nat) (st k ps) _) (zC ck (zD at' ⟨_,_,_,rfl,go⟩))
 ·exact Eq.mpr (r451b1 13 (l.map Cell.v) wr (zO form l k) (k:Nat) (st k ps) b a _) (zC ck (zD at' ⟨_,_,_,rfl,go⟩))
theorem body451{ps:List (Int×Int)}(hk:yH ps){σ:List O}(hσ:σ=st 0 ps){Q:V->List O->Prop}(q:∀ ps',yH ps'->Q (.bytes (zO form l l.length)) (st l.length ps')) :
  zI kD 59 (zG 451 0) (zE 451) [("caps",.loc 13),("cells",.lst (l.map Cell.v)),("written",wr)] σ (retK Q):=by
 subst hσ;have hb:=qI;have hl:=hok.2;refine jC 1 2 59 57 rfl rfl (by decide) (by decide +kernel) ?_;refine Eq.mpr (r451a 13 (l.map Cell.v) wr (st 0 ps) _) (zR ?_);refine jI 56 rfl (by kernel_rfl) (by kernel_rfl) (I451 form l wr st) l.length ⟨0,ps,[],rfl,Nat.zero_le _,rfl,.inl rfl,rfl,rfl,hk⟩ ?_;intro K m σ' zq;apply gk;intro J;obtain ⟨k,ps',r,rfl,hkl,hg,hr,rfl,rfl,hk'⟩:=zq;apply J;clear J;refine Eq.mpr (r451t 13 (l.map Cell.v) wr (zO form l k) (k:Nat) (st k ps') r _) ?_;rw [List.length_map];refine zC (by lia) (zX (fun h=>?_) fun h=>?_)
 ·refine turn451 hF hok hr (by lia) hg hk' fun e ps2 r' h1 h2 h3 h4 h5=>?_;exact ⟨l.length - e,by grind only,e,ps2,r',rfl,h2,h3,h5,rfl,rfl,h4⟩
 ·have e:k=l.length:=by lia
  subst e;exact zR (Eq.mpr (r451z 13 (l.map Cell.v) wr (zO form l l.length) (l.length:Nat) (st l.length ps') r _) (q ps' hk'))
end
theorem ask_plain{l:List Cell}{k:Nat}{c:Cell}(hc:l[k]?=some c)(hp:c.plain=true):zY l (k+1)=zY l k:=by
 unfold zY;refine rwp (xR hc) ?_;unfold kB;refine rwp hp ?_;simp
theorem fam_ref{form:Nat}{l:List Cell}{σ:List O}{ps:List (Int×Int)}(hC:CapsL σ form ps)(hok:zW l):Fam form l (.ref 524) fun _ ps=>σ.set 14 (yO form ps):=by
 apply gk;intro J;obtain ⟨h0,h1,h2,h3,h4,hf,_⟩:=hC;apply J;clear J;have hlt:=(List.getElem?_eq_some_iff.mp h4).1;refine ⟨fun k ps hk=>⟨?_,?_,?_,?_,by rw [List.getElem?_set_self hlt],hf,hk⟩,fun _ _ _=>List.set_set ..,fun _ _ _ _ _=>rfl,fun k c ps f P hc hp hl h=>?_⟩
 ·rw [List.getElem?_set_ne (by decide)];exact h0
 ·rw [List.getElem?_set_ne (by decide)];exact h1
 ·rw [List.getElem?_set_ne (by decide)];exact h2
 ·rw [List.getElem?_set_ne (by decide)];exact h3
 ·have hk:=qZ hok hc;have h:∀ g,g=f++qA c->P .next (M451 (l.map Cell.v) (.ref 524) g k (R451 (k+1) c)) (σ.set 14 (yO form ps)):=fun g e=>by subst e;exact h
  have e2:zI kD 53 (zG 451 0) (whO (nth 1 B451)) (M451 (l.map Cell.v) (.ref 524) f k (R451 (k+1) c)) (σ.set 14 (yO form ps)) P=zI kD 53 (zG 451 0) (whO (nth 1 (whB (nth 1 (zE 451))))) [("caps",.loc 13),("cells",.lst (l.map Cell.v)),("written",.ref 524),("found",.bytes f),("at",.int (k:Nat)),("end",.int ((k:Int)+1)),("cell",.tup [.tup (c.cs.map .int),.int c.w,.int c.p])] (σ.set 14 (yO form ps)) P:=rfl;refine Eq.mpr (e2.trans (r451o 13 (l.map Cell.v) f (k:Nat) (σ.set 14 (yO form ps)) (c.cs.map .int) c.w c.p ((k:Int)+1) P)) ?_;refine zX (fun hw=>?_) fun hw=>?_
  ·have hi:qA c=ink c:=by unfold qA;rw [decide_eq_true (show 0 < c.w from hw)]
   rw [hi] at h hl;refine xD (pl_in c) (zD (eq_ints _) (vA (fun hq=>?_) fun hq=>?_))
   ·have hne:c.cs≠[]:=by simpa using hq
    have hi:ink c=othB c.cs:=by
     unfold ink;split
     ·rename_i h';exact absurd h' hne
     ·rfl
    rw [hi] at h hl;exact ⟨c.cs,⟨rfl,List.length_pos_iff.mpr hne,hk.1,hk.2.1⟩,zC hl (h _ rfl)⟩
   ·have he:c.cs=[]:=by simpa using hq
    have hi:ink c=[32]:=by unfold ink;rw [he]
    rw [hi] at h hl;exact zC hl (h _ rfl)
  ·exact h _ (by unfold qA;rw [decide_eq_false (show ¬ 0 < c.w from hw),List.append_nil])
noncomputable def stC(b0 b1 b3 b4 b5 b6 b7 b8 b9 b10 b11 b12 b13 b15:O)(q:Str)(form:Nat)(l:List Cell)(k:Nat)(ps:List (Int×Int)):List O :=
 [b0,b1,.cell (some (.loc 16)),b3,b4,b5,b6,b7,b8,b9,b10,b11,b12,b13,yO form ps,b15,.list (zY l k),cloL q]
theorem fam_clo{form:Nat}{l:List Cell}{b0 b1 b3 b4 b5 b6 b7 b8 b9 b10 b11 b12 b13 b14 b15:O}{q:Str}{ps:List (Int×Int)}(hC:CapsL [b0,b1,.cell (some (.loc 16)),b3,b4,b5,b6,b7,b8,b9,b10,b11,b12,b13,b14,b15,.list [],cloL q] form ps)(hok:zW l) :
  Fam form l (.loc 17) (stC b0 b1 b3 b4 b5 b6 b7 b8 b9 b10 b11 b12 b13 b15 q form l)/\b14=yO form ps:=by
 apply gk;intro J;obtain ⟨h0,h1,h2,h3,h4,hf,_⟩:=hC;apply J;clear J;have e14:b14=yO form ps:=Option.some.inj h4;have e13:b13=.inst 405 12:=Option.some.inj h0;have e12:b12=.attrs xF [.loc 11,.loc 14]:=Option.some.inj h1;have e11:b11=.inst 470 10:=Option.some.inj h2;have e10:b10=.attrs xB (yW (xY form)):=Option.some.inj h3;have s1:∀ k ps ps',(stC b0 b1 b3 b4 b5 b6 b7 b8 b9 b10 b11 b12 b13 b15 q form l k ps).set 14 (yO form ps')=stC b0 b1 b3 b4 b5 b6 b7 b8 b9 b10 b11 b12 b13 b15 q form l k ps':=fun k ps ps'=>by
  unfold stC;simp only [List.set_cons_succ,List.set_cons_zero]
 have s0:∀ k ps',yH ps'->CapsL (stC b0 b1 b3 b4 b5 b6 b7 b8 b9 b10 b11 b12 b13 b15 q form l k ps') form ps':=fun k ps' hk=>by
  unfold stC CapsL;simp only [List.getElem?_cons_succ,List.getElem?_cons_zero];exact ⟨congrArg some e13,congrArg some e12,congrArg some e11,congrArg some e10,trivial,hf,hk⟩
 have s2:∀ k c ps,l[k]?=some c->c.plain=true->stC b0 b1 b3 b4 b5 b6 b7 b8 b9 b10 b11 b12 b13 b15 q form l (k+1) ps=stC b0 b1 b3 b4 b5 b6 b7 b8 b9 b10 b11 b12 b13 b15 q form l k ps:=fun k c ps hc hp=>by
  unfold stC;rw [ask_plain hc hp]
 refine ⟨⟨s0,s1,s2,?_⟩,e14⟩;intro k c ps f P hc hp hl h;have hk:=qZ hok hc;have hal:=ask_len l k;have hl2:=hok.2;have ha:zY l (k+1)=zY l k++kB c:=xR hc;have h:∀ g as,g=f++qA c->as=zY l (k+1)->P .next (M451 (l.map Cell.v) (.loc 17) g k (R451 (k+1) c)) [b0,b1,.cell (some (.loc 16)),b3,b4,b5,b6,b7,b8,b9,b10,b11,b12,b13,yO form ps,b15,.list as,cloL q]:=fun g as e e2=>by subst e;subst e2;exact h
 have e2:zI kD 53 (zG 451 0) (whO (nth 1 B451)) (M451 (l.map Cell.v) (.loc 17) f k (R451 (k+1) c)) (stC b0 b1 b3 b4 b5 b6 b7 b8 b9 b10 b11 b12 b13 b15 q form l k ps) P=zI kD 53 (zG 451 0) (whO (nth 1 (whB (nth 1 (zE 451))))) [("caps",.loc 13),("cells",.lst (l.map Cell.v)),("written",.loc 17),("found",.bytes f),("at",.int (k:Nat)),("end",.int ((k:Int)+1)),("cell",.tup [.tup (c.cs.map .int),.int c.w,.int c.p])]
  [b0,b1,.cell (some (.loc 16)),b3,b4,b5,b6,b7,b8,b9,b10,b11,b12,b13,yO form ps,b15,.list (zY l k),cloL q] P:=rfl
 refine Eq.mpr (e2.trans (r451c 13 (l.map Cell.v) (zY l k) f (k:Nat) b0 b1 b3 b4 b5 b6 b7 b8 b9 b10 b11 b12 b13 (yO form ps) b15 q (c.cs.map .int) c.w c.p ((k:Int)+1) P)) ?_;refine zX (fun hw=>?_) fun hw=>?_
 ·have hi:qA c=ink c:=by unfold qA;rw [decide_eq_true (show 0 < c.w from hw)]
  rw [hi] at h hl;refine xD (pl_in c) (zD (eq_ints _) (vA (fun hq=>?_) fun hq=>?_))
  ·have hne:c.cs≠[]:=by simpa using hq
   have hi:ink c=othB c.cs:=by
    unfold ink;split
    ·rename_i h';exact absurd h' hne
    ·rfl
   rw [hi] at h hl;refine ⟨by kernel_rfl,zC (by lia) ⟨c.cs,⟨rfl,List.length_pos_iff.mpr hne,hk.1,hk.2.1⟩,zC hl (h _ _ rfl ?_)⟩⟩;rw [ha];unfold kB;rw [decide_eq_true (show 0 < c.w from hw),decide_eq_false hne,hp];rfl
  ·have he:c.cs=[]:=by simpa using hq
   have hi:ink c=[32]:=by unfold ink;rw [he]
   rw [hi] at h hl;refine zC hl (h _ _ rfl ?_);rw [ha];unfold kB;rw [he];simp
 ·refine h _ _ (by unfold qA;rw [decide_eq_false (show ¬ 0 < c.w from hw),List.append_nil]) ?_;rw [ha];unfold kB;rw [decide_eq_false (show ¬ 0 < c.w from hw)];simp
section
variable{prog:Program}{w:World}{K:Frag}{mb:Str->Option Value}{R:Nat}
theorem SpecOk.weak{f:Addr}{sp sp':xM}(h:SpecOk prog w K mb R f sp)(hs:∀ args σ Q,sp' args σ Q->sp args σ Q):SpecOk prog w K mb R f sp' :=
 fun A own L ρ m σ s args vargs Q hA st S d q=>h A own L ρ m σ s args vargs Q hA st S d (hs _ _ _ q)
variable(B:vE prog w K mb)
include B
theorem ok444L:SpecOk prog w K mb 350 444 spRepL :=
 (ok444 B).weak fun args σ Q h=>by
  replace h:=spRepL_of h;apply gk;intro J;obtain ⟨_,_,_,rfl,h⟩:=h;apply J;clear J
  ·apply gk;intro J;obtain ⟨form,ps,⟨rfl,hC,h1,h2,h3⟩,q⟩:=h;apply J;clear J;exact ⟨14,form,ps,⟨hC.in,h1,h2,h3⟩,q⟩
theorem ok451:SpecOk prog w K mb 385 451 spRunsL :=
 spec_raw (R':=350) fun args σ Q h=>by
  apply gk;intro J;obtain ⟨z0,z1,wr,rfl,h1⟩:=xT h;obtain ⟨cp,e0,h2⟩:=zA h1;obtain ⟨vs,e1,h3⟩:=zA h2;apply J;clear J;refine rwp (yV e0) ?_;refine rwp (jA e1) ?_;clear h h1 h2;apply gk;intro J;obtain ⟨form,ps,l,⟨rfl,rfl,hok,hC⟩,h⟩:=h3;apply J;clear J;refine ⟨kD,60,B _ _ (zS (ok437 B) (by exact Nat.le_add_left _ _) (zS (ok444L B) (by exact Nat.le_refl _) (zS (ok524 B) (by exact Nat.le_add_left _ _) yK))),by simp_all,?_⟩;have hk:yH ps:=by obtain ⟨_,_,_,_,_,_,hk⟩:=hC;exact hk
  refine fn_in 59 σ.length rfl rfl (m:=[("caps",.loc 13),("cells",.lst (l.map Cell.v)),("written",wr)]) (σ1:=σ++[]) (by kernel_rfl) (by kernel_rfl) (by kernel_rfl) ?_;rw [List.append_nil];refine Eq.mpr (show _=zI kD 59 (zG 451 0) (zE 451) [("caps",.loc 13),("cells",.lst (l.map Cell.v)),("written",wr)] σ (retK Q) from by kernel_rfl) ?_;induction wr using Mine.V.casesOn with
  | ref f =>
   apply gk;intro J;obtain ⟨rfl,q⟩:=h;apply J;clear J;have h4:σ[14]?=some (yO form ps):=by obtain ⟨_,_,_,_,h4,_,_⟩:=hC;exact h4
   exact body451 (fam_ref hC hok) hok hk (set_same h4).symm q
  | loc j =>
   apply gk;intro J;obtain ⟨rfl,b0,b1,b3,b4,b5,b6,b7,b8,b9,b10,b11,b12,b13,b14,b15,qs,rfl,q⟩:=h;obtain ⟨hF,e⟩:=fam_clo hC hok;apply J;clear J;subst e;exact body451 hF hok hk rfl q
  | _=>exact h.elim
end
end Mine
end
section
set_option tactic.hygienic false
namespace Mine
noncomputable def Run.sg:Run->List UInt8
 | .many c n=>List.replicate n (UInt8.ofNat c.toNat)
 | .one b=>b
theorem runs_sg{l:List Cell}:∀ k,k<=l.length->(zM l k).flatMap Run.sg=yF l k:=by
 intro zv;induction zv with
 | zero =>
  intro _;simp [zM,yF]
 | succ k ih =>
  intro hk;have ih:=ih (by exact Nat.le_of_succ_le (by assumption));obtain ⟨c,hc⟩:∃ c,l[k]?=some c:=⟨_,List.getElem?_eq_getElem (by assumption)⟩
  have hs:yF l (k+1)=yF l k++kE c:=xR hc;rw [hs,<- ih,yY hc];cases hg:zT l k with
  | true =>
   apply gk;intro J;obtain ⟨h1,h2,h3,h4⟩:=jU hg;obtain ⟨j,rfl⟩:∃ j,k=j+1:=⟨k - 1,by simp_all⟩
   rw [Nat.add_sub_cancel] at h3 h4;obtain ⟨d,hd⟩:∃ d,l[j]?=some d:=⟨_,List.getElem?_eq_getElem (by exact Nat.le_of_succ_le (by assumption))⟩
   rw [yJ hd] at h3;rw [yJ hc] at h2;rw [kJ hd,kJ hc] at h4;obtain ⟨rs,r,e,e1,_⟩:=runs_last hd (plain_w h3);obtain ⟨n,rfl⟩:=e1 h3;apply J;clear J;show (bump (zM l (j+1))).flatMap _=_
   rw [e,qO,List.flatMap_append,List.flatMap_append,List.append_assoc];congr 1
   have ec:yM c=yM d:=by unfold yM;rw [h4]
   have es:kE c=[UInt8.ofNat (yM c).toNat]:=by unfold kE;rw [decide_eq_true (plain_w h2),h2]
   rw [es,ec];simp only [List.flatMap_cons,List.flatMap_nil,List.append_nil,bump1,Run.sg];rw [List.replicate_succ',<- List.replicate_succ']
  | false =>
   show (vD c _).flatMap _=_
   cases hp:c.plain with
   | true =>
    rw [addR_p hp,List.flatMap_append];unfold kE;rw [decide_eq_true (plain_w hp),hp];simp [Run.sg]
   | false =>
    unfold kE;by_cases hw:0 < c.w
    ·rw [addR_w hp hw,List.flatMap_append,decide_eq_true hw,hp];simp [Run.sg]
    ·rw [addR_n hp hw,decide_eq_false hw,List.append_nil]
noncomputable def tkOf(form:Nat):Run->List Tk
 | .many c n=>match decide (form=0\/n < 2)||!decide ((jJ form (UInt8.ofNat c.toNat) n).length < n) with
  | true=>(List.replicate n (UInt8.ofNat c.toNat)).map .byte
  | false=>[.byte (UInt8.ofNat c.toNat),.esc (n - 1)]
 | .one b=>b.map .byte
theorem enc_bytes(bs:List UInt8):(bs.map Tk.byte).flatMap Tk.enc=bs:=by
 induction bs with
 | nil=>rfl
 | cons b bs ih=>refine rwp List.map_cons ?_;refine rwp List.flatMap_cons ?_;refine rwp ih ?_;rfl
theorem tk_enc{form:Nat}(hf:form < 2)(r:Run):(tkOf form r).flatMap Tk.enc=r.out form:=by
 induction r using Mine.Run.casesOn with
 | one b=>exact enc_bytes b
 | many c n =>
  show (match decide (form=0\/n < 2)||!decide ((jJ form (UInt8.ofNat c.toNat) n).length < n) with | true=>_ | false=>_:List Tk).flatMap _=rep form (UInt8.ofNat c.toNat) n
  unfold rep;by_cases h1:form=0\/n < 2
  ·refine rwp (decide_eq_true h1) ?_;refine rwp (if_pos h1) ?_;exact enc_bytes _
  ·refine rwp (decide_eq_false h1) ?_;refine rwp (if_neg h1) ?_;by_cases h2:(jJ form (UInt8.ofNat c.toNat) n).length < n
   ·refine rwp (decide_eq_true h2) ?_;refine rwp (if_pos h2) ?_;have:form=1:=by lia
    subst this;simp [Tk.enc,jJ]
   ·refine rwp (decide_eq_false h2) ?_;refine rwp (if_neg h2) ?_;exact enc_bytes _
theorem dec_bytes:∀ (bs:List UInt8) (F:List UInt8) (ts:List Tk),(∀ b∈bs,b≠27)->jL F (bs.map .byte++ts)=jL (F++bs) ts:=by
 intro zv;induction zv with
 | nil =>
  intro F ts _;simp
 | cons b bs ih =>
  intro F ts h;refine rwp List.map_cons ?_;refine rwp List.cons_append ?_;rw [jL];refine rwp (decide_eq_false (h b (.head _))) ?_;show jL (F++[b]) _=_
  refine rwp (ih (F++[b]) ts fun x q=>h x (.tail _ q)) ?_;rw [List.append_assoc];rfl
noncomputable def Run.no27:Run->Prop
 | .many c n=>UInt8.ofNat c.toNat≠27/\1<=n/\n<=1000
 | .one b=>∀ x∈b,x≠27
theorem tk_dec{form:Nat}(r:Run)(h:r.no27)(F:List UInt8)(ts:List Tk):jL F (tkOf form r++ts)=jL (F++r.sg) ts:=by
 induction r using Mine.Run.casesOn with
 | one b=>exact dec_bytes b F ts h
 | many c n =>
  apply gk;intro J;obtain ⟨h1,h2,h3⟩:=h;apply J;clear J;show jL F ((match decide (form=0\/n < 2)||!decide ((jJ form (UInt8.ofNat c.toNat) n).length < n) with | true=>_ | false=>_:List Tk)++ts)=jL (F++List.replicate n _) ts
  split
  ·exact dec_bytes _ F ts fun b q=>by refine rwp ((List.mem_replicate.mp q).2) ?_;exact h1
  ·show jL F (.byte (UInt8.ofNat c.toNat)::.esc (n - 1)::ts)=_
   rw [jL];refine rwp (decide_eq_false h1) ?_;show jL (F++[_]) (.esc (n - 1)::ts)=_
   rw [jL];refine rwp List.getLast?_append ?_;simp only [List.getLast?_singleton,Option.some_or];refine rwp (decide_eq_true (show n - 1<=1000 by lia)) ?_;rw [List.append_assoc];congr 2
   obtain ⟨m,rfl⟩:∃ m,n=m+1:=⟨n - 1,by lia⟩
   rw [Nat.add_sub_cancel];refine rwp List.replicate_succ ?_;rfl
theorem dec_runs{form:Nat}:∀ (rs:List Run) (F:List UInt8),(∀ r∈rs,r.no27)->jL F (rs.flatMap (tkOf form))=some (F++rs.flatMap Run.sg):=by
 intro zv;induction zv with
 | nil =>
  intro F _;simp [jL]
 | cons r rs ih =>
  intro F h;refine rwp List.flatMap_cons ?_;rw [tk_dec r (h r (.head _))];refine rwp (ih _ fun x q=>h x (.tail _ q)) ?_;refine rwp List.flatMap_cons ?_;rw [List.append_assoc]
theorem enc_runs{form:Nat}(hf:form < 2)(rs:List Run):(rs.flatMap (tkOf form)).flatMap Tk.enc=rs.flatMap (Run.out form):=by
 induction rs with
 | nil=>rfl
 | cons r rs ih=>rw [List.flatMap_cons,List.flatMap_append,ih,tk_enc hf,List.flatMap_cons]
theorem ink_27{c:Cell}(h:c.Ok):∀ x∈ink c,x≠27:=by
 have dg:∀ n x,x∈zF n->x≠27:=fun n x q e=>by
  have:=(digs_mem q).1;subst e;exact absurd this (by decide)
 obtain ⟨cs,w,p⟩:=c;obtain ⟨h1,_,_⟩:=h;intro x hx;rcases cs with _ | ⟨a,_ | ⟨b,_ | ⟨c,r⟩⟩⟩
 ·refine rwp (List.mem_singleton.mp hx) ?_;decide
 ·have hx:x∈[123]++zF a.toNat++[125]:=hx;simp only [List.mem_append,List.mem_singleton] at hx;rcases hx with (rfl | hx) | rfl
  ·decide
  ·exact dg _ _ hx
  ·decide
 ·have hx:x∈[123]++(zF a.toNat++([44]++zF b.toNat))++[125]:=hx;simp only [List.mem_append,List.mem_singleton] at hx;rcases hx with (rfl | hx | rfl | hx) | rfl
  ·decide
  ·exact dg _ _ hx
  ·decide
  ·exact dg _ _ hx
  ·decide
 ·simp at h1
theorem bump_27:∀ {rs:List Run},(∀ r∈rs,r.no27)->(∀ r∈bump rs,∀ c n,r=.many c n->n<=1000)->∀ r∈bump rs,r.no27
 | [],_,_,r,hr=>by cases hr
 | [a],h,h2,r,hr=>by
  refine rwp (List.mem_singleton.mp hr) ?_;have ha:=h a (.head _);induction a using Mine.Run.casesOn with
  | one b=>exact ha
  | many c n=>exact ⟨ha.1,by have:=ha.2.1;exact Nat.le_add_left _ _,h2 _ (.head _) c (n+1) rfl⟩
 | a::b::rs,h,h2,r,hr=>by
  rcases List.mem_cons.mp hr with e | hr
  ·refine rwp e ?_;exact h a (.head _)
  ·exact bump_27 (fun r q=>h r (.tail _ q)) (fun r q=>h2 r (.tail _ q)) r hr
theorem code_27{c:Int}(h:c∈codesI):UInt8.ofNat c.toNat≠27:=by
 simp only [codesI,List.mem_cons,List.not_mem_nil,or_false] at h;rcases h with rfl | rfl | rfl | rfl | rfl | rfl <;> decide
theorem runs_27{l:List Cell}(hok:zW l):∀ k,k<=l.length->∀ r∈zM l k,r.no27:=by
 intro zv;induction zv with
 | zero =>
  intro _ r hr;cases hr
 | succ k ih =>
  intro hk r hr;have ih:=ih (by lia);have hl:=hok.2;obtain ⟨c,hc⟩:∃ c,l[k]?=some c:=⟨_,List.getElem?_eq_getElem (by lia)⟩
  have hck:=qZ hok hc;have hro:=(runs_ok hok (k+1)).1;rw [yY hc] at hr hro;cases hg:zT l k with
  | true =>
   rw [hg] at hr hro;refine bump_27 ih (fun r q c n e=>?_) r hr;have:=hro r q;subst e;have:=this.2.2;lia
  | false =>
   rw [hg] at hr;have hr:r∈vD c (zM l k):=hr;cases hp:c.plain with
   | true =>
    rw [addR_p hp] at hr;rcases List.mem_append.mp hr with hr | hr
    ·exact ih r hr
    ·refine rwp (List.mem_singleton.mp hr) ?_;exact ⟨code_27 (code_in hp hck),Nat.le_refl _,by lia⟩
   | false =>
    by_cases hw:0 < c.w
    ·rw [addR_w hp hw] at hr;rcases List.mem_append.mp hr with hr | hr
     ·exact ih r hr
     ·refine rwp (List.mem_singleton.mp hr) ?_;exact ink_27 hck
    ·rw [addR_n hp hw] at hr;exact ih r hr
theorem read_told{l:List Cell}(hok:zW l){form:Nat}(hf:form < 2):∃ ts,zO form l l.length=List.flatMap Tk.enc ts/\jL [] ts=some (yF l l.length) :=
 ⟨(zM l l.length).flatMap (tkOf form),(enc_runs hf _).symm,by rw [dec_runs _ _ (runs_27 hok _ (Nat.le_refl _)),List.nil_append,runs_sg _ (Nat.le_refl _)]⟩
theorem goes_take{l:List Cell}{p k:Nat}(h:k < p):zT (l.take p) k=zT l k:=by
 unfold zT jB csAt;rw [List.getElem?_take,if_pos h,List.getElem?_take,if_pos (by lia)]
theorem runs_take{l:List Cell}{p:Nat}:∀ k,k<=p->zM (l.take p) k=zM l k:=by
 intro zv;induction zv with
 | zero =>
  intro _;exact rfl
 | succ k ih =>
  intro h;rw [zM,zM,List.getElem?_take,if_pos (by assumption),goes_take (by assumption),ih (by exact Nat.le_of_succ_le (by assumption))]
theorem goes_drop{l:List Cell}{p k:Nat}(h:1<=k):zT (l.drop p) k=zT l (p+k):=by
 unfold zT jB csAt;rw [List.getElem?_drop,List.getElem?_drop,show p+(k - 1)=p+k - 1 by lia,decide_eq_true h,decide_eq_true (show 1<=p+k by lia)]
theorem bump_app2(a:List Run):∀ {b:List Run},b≠[]->bump (a++b)=a++bump b:=by
 intro b hb;obtain ⟨rs,r,rfl⟩:∃ rs r,b=rs++[r]:=⟨b.dropLast,b.getLast hb,(List.dropLast_concat_getLast hb).symm⟩
 rw [<- List.append_assoc,qO,qO,List.append_assoc]
theorem runs_drop{l:List Cell}{p:Nat}(hg:zT l p=false):∀ k,p+k<=l.length->zM l (p+k)=zM l p++zM (l.drop p) k:=by
 intro zv;induction zv with
 | zero =>
  intro _;simp [zM]
 | succ k ih =>
  intro hk;have ih:=ih (by exact Nat.le_of_succ_le (by assumption));obtain ⟨c,hc⟩:∃ c,l[p+k]?=some c:=⟨_,List.getElem?_eq_getElem (by assumption)⟩
  have hc':(l.drop p)[k]?=some c:=by refine rwp List.getElem?_drop ?_;exact hc
  refine rwp (show p+(k+1)=p+k+1 by simp +arith [*]) ?_;refine rwp (yY hc) ?_;refine rwp (yY hc') ?_;refine rwp ih ?_;have add:vD c (zM l p++zM (l.drop p) k)=zM l p++vD c (zM (l.drop p) k):=by
   cases hp:c.plain with
   | true=>rw [addR_p hp,addR_p hp,List.append_assoc]
   | false =>
    by_cases hw:0 < c.w
    ·rw [addR_w hp hw,addR_w hp hw,List.append_assoc]
    ·rw [addR_n hp hw,addR_n hp hw]
  induction k using Nat.casesAuxOn with
  | zero =>
   have e0:zT (l.drop p) 0=false:=rfl;refine rwp e0 ?_;refine rwp (show p+0=p from rfl) ?_;refine rwp hg ?_;exact add
  | succ k =>
   refine rwp (goes_drop (by exact Nat.le_add_left _ _)) ?_;cases hh:zT l (p+(k+1)) with
   | false=>exact add
   | true =>
    apply gk;intro J;obtain ⟨_,_,h3,_⟩:=jU hh;obtain ⟨d,hd⟩:∃ d,l[p+k]?=some d:=⟨_,List.getElem?_eq_getElem (by exact Nat.le_of_succ_le (by assumption))⟩
    rw [show p+(k+1) - 1=p+k by simp_all,yJ hd] at h3;have hd':(l.drop p)[k]?=some d:=by refine rwp List.getElem?_drop ?_;exact hd
    obtain ⟨rs,r,e,_⟩:=runs_last hd' (plain_w h3);apply J;clear J;exact bump_app2 _ (by refine rwp e ?_;simp)
theorem out_pieces{l:List Cell}{p form:Nat}(hp:p<=l.length)(hg:zT l p=false):zO form (l.take p) (l.take p).length++zO form (l.drop p) (l.drop p).length=zO form l l.length:=by
 rw [List.length_take,Nat.min_eq_left hp,List.length_drop];unfold zO;rw [runs_take p (Nat.le_refl _),<- List.flatMap_append,<- runs_drop hg (l.length - p) (by simp_all),show p+(l.length - p)=l.length by simp_all]
theorem ok_take{l:List Cell}(h:zW l)(p:Nat):zW (l.take p):=⟨fun c q=>h.1 c (List.mem_of_mem_take q),by refine rwp List.length_take ?_;have:=h.2;lia⟩
theorem ok_drop{l:List Cell}(h:zW l)(p:Nat):zW (l.drop p):=⟨fun c q=>h.1 c (List.mem_of_mem_drop q),by refine rwp List.length_drop ?_;have:=h.2;lia⟩
theorem cut_take{α:Type}{l:List α}{p:Nat}(hp:p<=l.length):cut l none (some (p:Int))=l.take p:=by
 unfold cut vB;simp only [List.drop_zero];rw [if_neg (by simp_all),show min ((p:Nat):Int).toNat l.length=p by simp_all]
theorem cut_drop{α:Type}{l:List α}{p:Nat}(hp:p<=l.length):cut l (some (p:Int)) none=l.drop p:=by
 unfold cut vB;simp only;rw [if_neg (by lia),show min ((p:Nat):Int).toNat l.length=p by lia,List.take_length]
theorem eq_cons{a b:V}{as bs:List V}(h1:eqV a b=some true)(h2:eqL as bs=some true):eqL (a::as) (b::bs)=some true:=by
 show ((eqV a b).bind _)=_
 refine rwp h1 ?_;exact h2
theorem eq_tups(f:List Int->V)(hf:∀ cs,eqV (f cs) (f cs)=some true)(l:List (List Int)):eqL (l.map f) (l.map f)=some true:=by
 induction l with
 | nil=>rfl
 | cons c l ih=>exact eq_cons (hf c) ih
theorem eq_int(a:Int):eqV (.int a) (.int a)=some true:=congrArg some (decide_eq_true rfl)
theorem eq_tupI(cs:List Int):eqV (.tup (cs.map .int)) (.tup (cs.map .int))=some true:=by
 show eqL _ _=_
 rw [eq_ints2,decide_eq_true rfl]
theorem eq_cell(c:Cell):eqV c.v c.v=some true:=eq_cons (eq_tupI c.cs) (eq_cons (eq_int _) (eq_cons (eq_int _) rfl))
theorem eq_cells(l:List Cell):eqL (l.map Cell.v) (l.map Cell.v)=some true:=by
 induction l with
 | nil=>rfl
 | cons c l ih=>exact eq_cons (eq_cell c) ih
theorem pl_cell(c:Cell)(n:Nat):qT (n+2) c.v=true:=Bool.and_eq_true_iff.mpr ⟨xS c.cs n,rfl⟩
theorem pl_cells(l:List Cell):zV 9 (l.map Cell.v)=true:=by
 induction l with
 | nil=>rfl
 | cons c l ih=>exact Bool.and_eq_true_iff.mpr ⟨pl_cell c 7,ih⟩
theorem ask_list(l:List Cell):∃ as:List (List Int),l.flatMap kB=as.map fun cs=>.tup (cs.map .int):=by
 induction l with
 | nil=>exact ⟨[],rfl⟩
 | cons c l ih =>
  obtain ⟨as,e⟩:=ih;refine rwp List.flatMap_cons ?_;refine rwp e ?_;unfold kB;split
  ·exact ⟨c.cs::as,rfl⟩
  ·exact ⟨as,rfl⟩
theorem pl_asks(as:List (List Int)):zV 9 (as.map fun cs=>V.tup (cs.map .int))=true:=by
 induction as with
 | nil=>rfl
 | cons cs as ih=>exact Bool.and_eq_true_iff.mpr ⟨xS cs 8,ih⟩
theorem ask_eq(l:List Cell)(k:Nat):(zV 9 (zY l k)&&zV 9 (zY l k))=true/\eqL (zY l k) (zY l k)=some true:=by
 obtain ⟨as,e⟩:=ask_list (l.take k);unfold zY;refine rwp e ?_;exact ⟨by rw [pl_asks];rfl,eq_tups _ eq_tupI as⟩
end Mine
end
section
set_option tactic.hygienic false
set_option maxRecDepth 1000000
namespace Mine
theorem rL0(cs:List V)(a:O)(P:Fl->Loc->List O->Prop):zI TL 90 jS (lawB.take 2) [("script",.lst cs)] [a,.cell none,.cell none] P =
 (∃ (cs_1:List Int),
 (cs=List.map V.int cs_1/\cs_1.length<=(1000:Nat)) /\
  ∀ (x:Int) (vs':List V),
   yA vs' ->
    (zH=zH/\(3:Nat)≠(4:Nat)/\(0:Int)<=(0:Int)/\(0:Int) < (1000000:Int)/\yA vs'/\(0:Int) < (5:Int)/\(5:Int) < (1000000:Int)) /\
     ∀ (v:Int) (vs':List V),
      (0:Int)<=v/\v < (5:Int)/\yA vs' ->
       P Fl.next [(Str.ofString "script",V.lst cs),(Str.ofString "deck",V.loc (3:Nat)),(Str.ofString "form",V.int v)]
        [a,O.cell none,O.cell none,
         O.dict [V.str (Str.ofString "cells"),V.str (Str.ofString "mixed"),V.str (Str.ofString "turn")] [V.loc (4:Nat),V.int x,V.int ((0:Int)+(1:Int))],
         O.list vs']):=by kernel_rfl
theorem rL2(cs vs:List V)(a:O)(x t f:Int)(P:Fl->Loc->List O->Prop):zI TL 88 jS ((lawB.drop 2).take 1) [("script",.lst cs),("deck",.loc 3),("form",.int f)] [a,.cell none,.cell none,.dict zH [.loc 4,.int x,.int t],.list vs] P =
 (ifB (decide (f=(0:Int)))
 (P Fl.next [(Str.ofString "script",V.lst cs),(Str.ofString "deck",V.loc (3:Nat)),(Str.ofString "form",V.int f)]
  [a,O.cell (some (V.loc (13:Nat))),O.cell none,
   O.dict [V.str (Str.ofString "cells"),V.str (Str.ofString "mixed"),V.str (Str.ofString "turn")] [V.loc (4:Nat),V.int x,V.int t],O.list vs,
   O.list [V.bytes [(120:UInt8)]],O.dict [] [],O.dict [] [],O.dict [] [],O.dict [] [],
   O.attrs [Str.ofString "names",Str.ofString "booleans",Str.ofString "numbers",Str.ofString "strings",Str.ofString "more",Str.ofString "uses"]
    [V.lst [V.bytes [(120:UInt8)]],V.dct [] [],V.dct [] [],V.dct [] [],V.dct [] [],V.lst []],
   O.inst (470:Nat) (10:Nat),O.attrs [Str.ofString "info",Str.ofString "kept"] [V.loc (11:Nat),V.loc (14:Nat)],O.inst (405:Nat) (12:Nat),O.dict [] []])
 (chk (decide ((5:Nat)<=big/\(0:Int)<=idx (5:Nat) f))
  (@zB V
   [V.none,
     V.bytes
      [(37:UInt8),(112:UInt8),(49:UInt8),(37:UInt8),(99:UInt8),(27:UInt8),(91:UInt8),(37:UInt8),(112:UInt8),(50:UInt8),(37:UInt8),
       (123:UInt8),(49:UInt8),(125:UInt8),(37:UInt8),(45:UInt8),(37:UInt8),(100:UInt8),(98:UInt8)],
     V.bytes
      [(27:UInt8),(91:UInt8),(37:UInt8),(112:UInt8),(50:UInt8),(37:UInt8),(100:UInt8),(59:UInt8),(37:UInt8),(112:UInt8),(49:UInt8),
       (37:UInt8),(100:UInt8),(114:UInt8)],
     V.bytes
      [(27:UInt8),(37:UInt8),(112:UInt8),(49:UInt8),(37:UInt8),(99:UInt8),(37:UInt8),(112:UInt8),(50:UInt8),(37:UInt8),(100:UInt8),
       (33:UInt8),(36:UInt8),(60:UInt8),(53:UInt8),(62:UInt8)],
     V.bytes
      [(82:UInt8),(37:UInt8),(112:UInt8),(49:UInt8),(37:UInt8),(99:UInt8),(37:UInt8),(112:UInt8),(50:UInt8),(37:UInt8),(100:UInt8),
       (46:UInt8)]][(idx (5:Nat) f).toNat]?
   fun (val:V) =>
   distK [] [V.bytes [(114:UInt8),(101:UInt8),(112:UInt8)]] /\
    ([a,O.cell none,O.cell none,O.dict zH [V.loc (4:Nat),V.int x,V.int t],O.list vs]++[O.list [V.bytes [(120:UInt8)]]]++[O.dict [] []]++[O.dict [] []] ++
         [O.dict [] []] ++
        [])[([a,O.cell none,O.cell none,O.dict zH [V.loc (4:Nat),V.int x,V.int t],O.list vs]++[O.list [V.bytes [(120:UInt8)]]]++[O.dict [] []] ++
         [O.dict [] []]).length]? =
      some (O.dict [] []) /\
     P Fl.next [(Str.ofString "script",V.lst cs),(Str.ofString "deck",V.loc (3:Nat)),(Str.ofString "form",V.int f)]
      [a,O.cell (some (V.loc (13:Nat))),O.cell none,
       O.dict [V.str (Str.ofString "cells"),V.str (Str.ofString "mixed"),V.str (Str.ofString "turn")] [V.loc (4:Nat),V.int x,V.int t],O.list vs,
       O.list [V.bytes [(120:UInt8)]],O.dict [] [],O.dict [] [],O.dict [V.bytes [(114:UInt8),(101:UInt8),(112:UInt8)]] [val],O.dict [] [],
       O.attrs [Str.ofString "names",Str.ofString "booleans",Str.ofString "numbers",Str.ofString "strings",Str.ofString "more",Str.ofString "uses"]
        [V.lst [V.bytes [(120:UInt8)]],V.dct [] [],V.dct [] [],V.dct [V.bytes [(114:UInt8),(101:UInt8),(112:UInt8)]] [val],V.dct [] [],V.lst []],
       O.inst (470:Nat) (10:Nat),O.attrs [Str.ofString "info",Str.ofString "kept"] [V.loc (11:Nat),V.loc (14:Nat)],O.inst (405:Nat) (12:Nat),O.dict [] []]))):=by kernel_rfl
theorem rL3(cs vs:List V)(a:O)(x t f:Int)(j5 j6 j7 j8 j9 j10 j11 j12 j13 j14:O)(P:Fl->Loc->List O->Prop):zI TL 87 jS (((lawB.drop 2).drop 1).take 1) [("script",.lst cs),("deck",.loc 3),("form",.int f)] [a,.cell (some (.loc 13)),.cell none,.dict zH [.loc 4,.int x,.int t],.list vs,j5,j6,j7,j8,j9,j10,j11,j12,j13,j14] P =
 ((zH=zH/\(3:Nat)≠(4:Nat)/\(0:Int)<=t/\t < (1000000:Int)/\yA vs/\(0:Int) < (6:Int)/\(6:Int) < (1000000:Int)) /\
 ∀ (v:Int) (vs':List V),
  (0:Int)<=v/\v < (6:Int)/\yA vs' ->
   chk (decide ((6:Nat)<=big/\(0:Int)<=idx (6:Nat) v))
    (@zB V [V.int (97:Int),V.int (98:Int),V.int (36:Int),V.int (60:Int),V.int (126:Int),V.int (33:Int)][(idx (6:Nat) v).toNat]? fun (val:V) =>
     ∃ (n:Int),
      val=V.int n /\
       P Fl.next [(Str.ofString "script",V.lst cs),(Str.ofString "deck",V.loc (3:Nat)),(Str.ofString "form",V.int f),(Str.ofString "code",V.int n)]
        [a,O.cell (some (V.loc (13:Nat))),O.cell none,
         O.dict [V.str (Str.ofString "cells"),V.str (Str.ofString "mixed"),V.str (Str.ofString "turn")] [V.loc (4:Nat),V.int x,V.int (t+(1:Int))],O.list vs',
         j5,j6,j7,j8,j9,j10,j11,j12,j13,j14])):=by kernel_rfl
theorem rL4e(cs vs:List V)(a:O)(x t f:Int)(j5 j6 j7 j8 j9 j10 j11 j12 j13 j14:O)(c:Int)(P:V->List O->Prop):wpE TL 84 jS (forI (nth 0 (((lawB.drop 2).drop 1).drop 1))) [("script",.lst cs),("deck",.loc 3),("form",.int f),("code",.int c)] [a,.cell (some (.loc 13)),.cell none,.dict zH [.loc 4,.int x,.int t],.list vs,j5,j6,j7,j8,j9,j10,j11,j12,j13,j14] P =
 ((zH=zH/\(3:Nat)≠(4:Nat)/\(0:Int)<=t/\t < (1000000:Int)/\yA vs/\(0:Int) < (130:Int)/\(130:Int) < (1000000:Int)) /\
 ∀ (v:Int) (vs':List V),
  (0:Int)<=v/\v < (130:Int)/\yA vs' ->
   P (V.tup [V.int (0:Int),V.int (1:Int),V.int (2:Int),V.int (4:Int),V.int (5:Int),V.int (6:Int),V.int v])
    [a,O.cell (some (V.loc (13:Nat))),O.cell none,
     O.dict [V.str (Str.ofString "cells"),V.str (Str.ofString "mixed"),V.str (Str.ofString "turn")] [V.loc (4:Nat),V.int x,V.int (t+(1:Int))],O.list vs',j5,j6,
     j7,j8,j9,j10,j11,j12,j13,j14]):=by kernel_rfl
theorem rL4b(cs vs:List V)(a:O)(x t f:Int)(j5 j6 j7 j8 j9 j10 j11 j12 j13 j14:O)(c n:Int)(P:Fl->Loc->List O->Prop):zI TL 83 jS (whB (nth 0 (((lawB.drop 2).drop 1).drop 1))) [("script",.lst cs),("deck",.loc 3),("form",.int f),("code",.int c),("many",.int n)] [a,.cell (some (.loc 13)),.cell none,.dict zH [.loc 4,.int x,.int t],.list vs,j5,j6,j7,j8,j9,j10,j11,j12,j13,j14] P =
 (∃ (form:Nat),
 ∃ (ps:List (Int×Int)),
  ((13:Nat)=(13:Nat) /\
    CapsL [a,O.cell (some (V.loc (13:Nat))),O.cell none,O.dict zH [V.loc (4:Nat),V.int x,V.int t],O.list vs,j5,j6,j7,j8,j9,j10,j11,j12,j13,j14] form ps /\
     c∈codesI/\(0:Int)<=n/\n<=(1000:Int)) /\
   ∀ (ps':List (Int×Int)),
    yH ps' ->
     ((0:Int)<=f/\f<=(4:Int)/\c∈codesI/\(0:Int)<=n/\n<=(1000:Int)) /\
      ifB (!decide (rep form (UInt8.ofNat c.toNat) n.toNat=rep f.toNat (UInt8.ofNat c.toNat) n.toNat))
       (P (Fl.ret (V.bool false))
        [(Str.ofString "script",V.lst cs),(Str.ofString "deck",V.loc (3:Nat)),(Str.ofString "form",V.int f),(Str.ofString "code",V.int c),
         (Str.ofString "many",V.int n)]
        [a,O.cell (some (V.loc (13:Nat))),O.cell none,
         O.dict [V.str (Str.ofString "cells"),V.str (Str.ofString "mixed"),V.str (Str.ofString "turn")] [V.loc (4:Nat),V.int x,V.int t],O.list vs,j5,j6,j7,j8,
         j9,j10,j11,j12,j13,O.dict (List.map xJ ps') (List.map (kR form) ps')])
       (P Fl.next
        [(Str.ofString "script",V.lst cs),(Str.ofString "deck",V.loc (3:Nat)),(Str.ofString "form",V.int f),(Str.ofString "code",V.int c),
         (Str.ofString "many",V.int n)]
        [a,O.cell (some (V.loc (13:Nat))),O.cell none,
         O.dict [V.str (Str.ofString "cells"),V.str (Str.ofString "mixed"),V.str (Str.ofString "turn")] [V.loc (4:Nat),V.int x,V.int t],O.list vs,j5,j6,j7,j8,
         j9,j10,j11,j12,j13,O.dict (List.map xJ ps') (List.map (kR form) ps')])):=by kernel_rfl
theorem rL5(cs vs:List V)(a:O)(x t f:Int)(j5 j6 j7 j8 j9 j10 j11 j12 j13 j14:O)(c n:Int)(P:Fl->Loc->List O->Prop):zI TL 85 jS (((((lawB.drop 2).drop 1).drop 1).drop 1).take 3) [("script",.lst cs),("deck",.loc 3),("form",.int f),("code",.int c),("many",.int n)] [a,.cell (some (.loc 13)),.cell none,.dict zH [.loc 4,.int x,.int t],.list vs,j5,j6,j7,j8,j9,j10,j11,j12,j13,j14] P =
 ((zH=zH/\(3:Nat)≠(4:Nat)/\(0:Int)<=t/\t < (1000:Int)/\yA vs) /\
 ∀ (cells:List Cell) (t':Int) (vs':List V),
  zW cells/\(0:Int)<=t'/\t' < (2000:Int)/\yA vs' ->
   chk (decide ((List.map Cell.v cells).length<=big))
    (∃ (l:List Cell),
     (List.map Cell.v cells=List.map Cell.v l/\zW l/\(0:Int)<=f/\f<=(4:Int)) /\
      P Fl.next
       [(Str.ofString "script",V.lst cs),(Str.ofString "deck",V.loc (3:Nat)),(Str.ofString "form",V.int f),(Str.ofString "code",V.int c),
        (Str.ofString "many",V.int n),(Str.ofString "cells",V.lst (List.map Cell.v cells)),(Str.ofString "before",V.loc (15:Nat)),
        (Str.ofString "due",V.bytes (zO f.toNat l l.length)),(Str.ofString "asked",V.lst (zY l l.length)),(Str.ofString "signs",V.bytes (yF l l.length))]
       [a,O.cell (some (V.loc (13:Nat))),O.cell (some (V.loc (16:Nat))),
        O.dict [V.str (Str.ofString "cells"),V.str (Str.ofString "mixed"),V.str (Str.ofString "turn")] [V.loc (4:Nat),V.int x,V.int t'],O.list vs',j5,j6,j7,j8,
        j9,j10,j11,j12,j13,j14,O.list (List.map Cell.v cells),O.list []])):=by kernel_rfl
theorem rL8(cs vs l l15 l16 ak:List V)(du si td:List UInt8)(x t f c n p:Int)(j5 j6 j7 j8 j9 j10 j11 j12 j13 j14:O)(P:Fl->Loc->List O->Prop):zI TL 82 jS ((((((lawB.drop 2).drop 1).drop 1).drop 1).drop 3).take 1) [("script",.lst cs),("deck",.loc 3),("form",.int f),("code",.int c),("many",.int n),("cells",.lst l),("before",.loc 15),("due",.bytes du),("asked",.lst ak),("signs",.bytes si)] [.raw (tabObj #[]),.cell (some (.loc 13)),.cell (some (.loc 16)),.dict zH [.loc 4,.int x,.int t],.list vs,j5,j6,j7,j8,j9,j10,j11,j12,j13,j14,.list l15,.list l16] P =
 ([O.raw (tabObj #[]),O.cell (some (V.loc (13:Nat))),O.cell (some (V.loc (16:Nat))),O.dict zH [V.loc (4:Nat),V.int x,V.int t],O.list vs,j5,j6,j7,j8,j9,j10,j11,
    j12,j13,j14,O.list l15,O.list l16][(0:Nat)]? =
  some (O.raw (tabObj #[])) /\
 ∃ (form:Nat),
  ∃ (ps:List (Int×Int)),
   ∃ (l_1:List Cell),
    ((13:Nat)=(13:Nat) /\
      l=List.map Cell.v l_1 /\
       zW l_1 /\
        CapsL
         ([O.raw (tabObj #[]),O.cell (some (V.loc (13:Nat))),O.cell (some (V.loc (16:Nat))),O.dict zH [V.loc (4:Nat),V.int x,V.int t],O.list vs,j5,j6,j7,
             j8,j9,j10,j11,j12,j13,j14,O.list l15,O.list l16].set
           (0:Nat) O.tab ++
          [O.clo (Str.ofString "law.<locals>." ++ Str.ofString "<lambda>") (Str.ofString "codes")
            {kind:=ScopeKind.function,
             names:=[(Str.ofString "codes",NameKind.local),(Str.ofString "notes",NameKind.free),(Str.ofString "_law_noted",NameKind.globalImplicit)],
             isGenerator:=false,isCoroutine:=false }
            ((Expr.Name (Str.ofString "_law_noted") { line:=(544:Nat),col:=(54:Nat),endLine:=(544:Nat),endCol:=(64:Nat) }).Call
             [Expr.Name (Str.ofString "notes") { line:=(544:Nat),col:=(65:Nat),endLine:=(544:Nat),endCol:=(70:Nat) },
              Expr.Name (Str.ofString "codes") { line:=(544:Nat),col:=(72:Nat),endLine:=(544:Nat),endCol:=(77:Nat) }]
             [] { line:=(544:Nat),col:=(54:Nat),endLine:=(544:Nat),endCol:=(78:Nat) })
            (zP jS
              {kind:=ScopeKind.function,
               names:=[(Str.ofString "codes",NameKind.local),(Str.ofString "notes",NameKind.free),(Str.ofString "_law_noted",NameKind.globalImplicit)],
               isGenerator:=false,isCoroutine:=false }).cells])
         form ps) /\
     [O.raw (tabObj #[]),O.cell (some (V.loc (13:Nat))),O.cell (some (V.loc (16:Nat))),O.dict zH [V.loc (4:Nat),V.int x,V.int t],O.list vs,j5,j6,j7,j8,j9,
         j10,j11,j12,j13,j14,O.list l15,O.list l16].length =
       (17:Nat) /\
      ∃ (b0:O),
       ∃ (b1:O),
        ∃ (b3:O),
         ∃ (b4:O),
          ∃ (b5:O),
           ∃ (b6:O),
            ∃ (b7:O),
             ∃ (b8:O),
              ∃ (b9:O),
               ∃ (b10:O),
                ∃ (b11:O),
                 ∃ (b12:O),
                  ∃ (b13:O),
                   ∃ (b14:O),
                    ∃ (b15:O),
                     ∃ (q:Str),
                      [O.raw (tabObj #[]),O.cell (some (V.loc (13:Nat))),O.cell (some (V.loc (16:Nat))),
                            O.dict zH [V.loc (4:Nat),V.int x,V.int t],O.list vs,j5,j6,j7,j8,j9,j10,j11,j12,j13,j14,O.list l15,
                            O.list l16].set
                          (0:Nat) O.tab ++
                         [O.clo (Str.ofString "law.<locals>." ++ Str.ofString "<lambda>") (Str.ofString "codes")
                           {kind:=ScopeKind.function,
                            names :=
                             [(Str.ofString "codes",NameKind.local),(Str.ofString "notes",NameKind.free),
                              (Str.ofString "_law_noted",NameKind.globalImplicit)],
                            isGenerator:=false,isCoroutine:=false }
                           ((Expr.Name (Str.ofString "_law_noted")
                              {line:=(544:Nat),col:=(54:Nat),endLine:=(544:Nat),endCol:=(64:Nat) }).Call
                            [Expr.Name (Str.ofString "notes") { line:=(544:Nat),col:=(65:Nat),endLine:=(544:Nat),endCol:=(70:Nat) },
                             Expr.Name (Str.ofString "codes") { line:=(544:Nat),col:=(72:Nat),endLine:=(544:Nat),endCol:=(77:Nat) }]
                            [] { line:=(544:Nat),col:=(54:Nat),endLine:=(544:Nat),endCol:=(78:Nat) })
                           (zP jS
                             {kind:=ScopeKind.function,
                              names :=
                               [(Str.ofString "codes",NameKind.local),(Str.ofString "notes",NameKind.free),
                                (Str.ofString "_law_noted",NameKind.globalImplicit)],
                              isGenerator:=false,isCoroutine:=false }).cells] =
                        [b0,b1,O.cell (some (V.loc (16:Nat))),b3,b4,b5,b6,b7,b8,b9,b10,b11,b12,b13,b14,b15,O.list [],cloL q] /\
                       ∀ (ps':List (Int×Int)),
                        yH ps' ->
                         P Fl.next
                          [(Str.ofString "script",V.lst cs),(Str.ofString "deck",V.loc (3:Nat)),(Str.ofString "form",V.int f),
                           (Str.ofString "code",V.int c),(Str.ofString "many",V.int n),(Str.ofString "cells",V.lst l),
                           (Str.ofString "before",V.loc (15:Nat)),(Str.ofString "due",V.bytes du),(Str.ofString "asked",V.lst ak),
                           (Str.ofString "signs",V.bytes si),(Str.ofString "told",V.bytes (zO form l_1 l_1.length))]
                          [b0,b1,O.cell (some (V.loc (16:Nat))),b3,b4,b5,b6,b7,b8,b9,b10,b11,b12,b13,
                           O.dict (List.map xJ ps') (List.map (kR form) ps'),b15,O.list (zY l_1 l_1.length),
                           O.clo q (Str.ofString "codes") (lamS qG) (lamE qG) [(Str.ofString "notes",(2:Nat))]]):=by kernel_rfl
theorem rL9(cs vs l l15 l16 ak:List V)(du si td:List UInt8)(a:O)(x t f c n p:Int)(j5 j6 j7 j8 j9 j10 j11 j12 j13 j14:O)(j17:O)(P:Fl->Loc->List O->Prop):zI TL 81 jS (((((((lawB.drop 2).drop 1).drop 1).drop 1).drop 3).drop 1).take 1) [("script",.lst cs),("deck",.loc 3),("form",.int f),("code",.int c),("many",.int n),("cells",.lst l),("before",.loc 15),("due",.bytes du),("asked",.lst ak),("signs",.bytes si),("told",.bytes td)] [a,.cell (some (.loc 13)),.cell (some (.loc 16)),.dict zH [.loc 4,.int x,.int t],.list vs,j5,j6,j7,j8,j9,j10,j11,j12,j13,j14,.list l15,.list l16,j17] P =
 (ifB (!decide (td=du))
 (P (Fl.ret (V.bool false))
  [(Str.ofString "script",V.lst cs),(Str.ofString "deck",V.loc (3:Nat)),(Str.ofString "form",V.int f),(Str.ofString "code",V.int c),(Str.ofString "many",V.int n),
   (Str.ofString "cells",V.lst l),(Str.ofString "before",V.loc (15:Nat)),(Str.ofString "due",V.bytes du),(Str.ofString "asked",V.lst ak),
   (Str.ofString "signs",V.bytes si),(Str.ofString "told",V.bytes td)]
  [a,O.cell (some (V.loc (13:Nat))),O.cell (some (V.loc (16:Nat))),
   O.dict [V.str (Str.ofString "cells"),V.str (Str.ofString "mixed"),V.str (Str.ofString "turn")] [V.loc (4:Nat),V.int x,V.int t],O.list vs,j5,j6,j7,j8,j9,j10,j11,
   j12,j13,j14,O.list l15,O.list l16,j17])
 (chk (zV (9:Nat) l16&&zV (9:Nat) ak)
  (@zB Bool (eqL l16 ak) fun (val:Bool) =>
   ifB (!val)
    (P (Fl.ret (V.bool false))
     [(Str.ofString "script",V.lst cs),(Str.ofString "deck",V.loc (3:Nat)),(Str.ofString "form",V.int f),(Str.ofString "code",V.int c),
      (Str.ofString "many",V.int n),(Str.ofString "cells",V.lst l),(Str.ofString "before",V.loc (15:Nat)),(Str.ofString "due",V.bytes du),
      (Str.ofString "asked",V.lst ak),(Str.ofString "signs",V.bytes si),(Str.ofString "told",V.bytes td)]
     [a,O.cell (some (V.loc (13:Nat))),O.cell (some (V.loc (16:Nat))),
      O.dict [V.str (Str.ofString "cells"),V.str (Str.ofString "mixed"),V.str (Str.ofString "turn")] [V.loc (4:Nat),V.int x,V.int t],O.list vs,j5,j6,j7,j8,j9,
      j10,j11,j12,j13,j14,O.list l15,O.list l16,j17])
    (chk (zV (9:Nat) l&&zV (9:Nat) l15)
     (@zB Bool (eqL l l15) fun (val:Bool) =>
      ifB (!val)
       (P (Fl.ret (V.bool false))
        [(Str.ofString "script",V.lst cs),(Str.ofString "deck",V.loc (3:Nat)),(Str.ofString "form",V.int f),(Str.ofString "code",V.int c),
         (Str.ofString "many",V.int n),(Str.ofString "cells",V.lst l),(Str.ofString "before",V.loc (15:Nat)),(Str.ofString "due",V.bytes du),
         (Str.ofString "asked",V.lst ak),(Str.ofString "signs",V.bytes si),(Str.ofString "told",V.bytes td)]
        [a,O.cell (some (V.loc (13:Nat))),O.cell (some (V.loc (16:Nat))),
         O.dict [V.str (Str.ofString "cells"),V.str (Str.ofString "mixed"),V.str (Str.ofString "turn")] [V.loc (4:Nat),V.int x,V.int t],O.list vs,j5,j6,j7,j8,
         j9,j10,j11,j12,j13,j14,O.list l15,O.list l16,j17])
       (P Fl.next
        [(Str.ofString "script",V.lst cs),(Str.ofString "deck",V.loc (3:Nat)),(Str.ofString "form",V.int f),(Str.ofString "code",V.int c),
         (Str.ofString "many",V.int n),(Str.ofString "cells",V.lst l),(Str.ofString "before",V.loc (15:Nat)),(Str.ofString "due",V.bytes du),
         (Str.ofString "asked",V.lst ak),(Str.ofString "signs",V.bytes si),(Str.ofString "told",V.bytes td)]
        [a,O.cell (some (V.loc (13:Nat))),O.cell (some (V.loc (16:Nat))),
         O.dict [V.str (Str.ofString "cells"),V.str (Str.ofString "mixed"),V.str (Str.ofString "turn")] [V.loc (4:Nat),V.int x,V.int t],O.list vs,j5,j6,j7,j8,
         j9,j10,j11,j12,j13,j14,O.list l15,O.list l16,j17])))))):=by kernel_rfl
theorem rL10(cs vs l l15 l16 ak:List V)(du si td:List UInt8)(a:O)(x t f c n p:Int)(j5 j6 j7 j8 j9 j10 j11 j12 j13 j14:O)(j17:O)(P:Fl->Loc->List O->Prop):zI TL 80 jS ((((((((lawB.drop 2).drop 1).drop 1).drop 1).drop 3).drop 1).drop 1).take 1) [("script",.lst cs),("deck",.loc 3),("form",.int f),("code",.int c),("many",.int n),("cells",.lst l),("before",.loc 15),("due",.bytes du),("asked",.lst ak),("signs",.bytes si),("told",.bytes td)] [a,.cell (some (.loc 13)),.cell (some (.loc 16)),.dict zH [.loc 4,.int x,.int t],.list vs,j5,j6,j7,j8,j9,j10,j11,j12,j13,j14,.list l15,.list l16,j17] P =
 (ifB (decide (f < (2:Int)))
 (∃ (ts:List Tk),
  ∃ (out:List UInt8),
   (td=List.flatMap Tk.enc ts/\jL [] ts=some out/\td.length<=(1000000:Nat)/\out.length<=(1000000:Nat)) /\
    ifB (!decide (out=si))
     (P (Fl.ret (V.bool false))
      [(Str.ofString "script",V.lst cs),(Str.ofString "deck",V.loc (3:Nat)),(Str.ofString "form",V.int f),(Str.ofString "code",V.int c),
       (Str.ofString "many",V.int n),(Str.ofString "cells",V.lst l),(Str.ofString "before",V.loc (15:Nat)),(Str.ofString "due",V.bytes du),
       (Str.ofString "asked",V.lst ak),(Str.ofString "signs",V.bytes si),(Str.ofString "told",V.bytes td)]
      [a,O.cell (some (V.loc (13:Nat))),O.cell (some (V.loc (16:Nat))),
       O.dict [V.str (Str.ofString "cells"),V.str (Str.ofString "mixed"),V.str (Str.ofString "turn")] [V.loc (4:Nat),V.int x,V.int t],O.list vs,j5,j6,j7,j8,j9,
       j10,j11,j12,j13,j14,O.list l15,O.list l16,j17])
     (P Fl.next
      [(Str.ofString "script",V.lst cs),(Str.ofString "deck",V.loc (3:Nat)),(Str.ofString "form",V.int f),(Str.ofString "code",V.int c),
       (Str.ofString "many",V.int n),(Str.ofString "cells",V.lst l),(Str.ofString "before",V.loc (15:Nat)),(Str.ofString "due",V.bytes du),
       (Str.ofString "asked",V.lst ak),(Str.ofString "signs",V.bytes si),(Str.ofString "told",V.bytes td)]
      [a,O.cell (some (V.loc (13:Nat))),O.cell (some (V.loc (16:Nat))),
       O.dict [V.str (Str.ofString "cells"),V.str (Str.ofString "mixed"),V.str (Str.ofString "turn")] [V.loc (4:Nat),V.int x,V.int t],O.list vs,j5,j6,j7,j8,j9,
       j10,j11,j12,j13,j14,O.list l15,O.list l16,j17]))
 (P Fl.next
  [(Str.ofString "script",V.lst cs),(Str.ofString "deck",V.loc (3:Nat)),(Str.ofString "form",V.int f),(Str.ofString "code",V.int c),(Str.ofString "many",V.int n),
   (Str.ofString "cells",V.lst l),(Str.ofString "before",V.loc (15:Nat)),(Str.ofString "due",V.bytes du),(Str.ofString "asked",V.lst ak),
   (Str.ofString "signs",V.bytes si),(Str.ofString "told",V.bytes td)]
  [a,O.cell (some (V.loc (13:Nat))),O.cell (some (V.loc (16:Nat))),
   O.dict [V.str (Str.ofString "cells"),V.str (Str.ofString "mixed"),V.str (Str.ofString "turn")] [V.loc (4:Nat),V.int x,V.int t],O.list vs,j5,j6,j7,j8,j9,j10,j11,
   j12,j13,j14,O.list l15,O.list l16,j17])):=by kernel_rfl
theorem rL11(cs vs l l15 l16 ak:List V)(du si td:List UInt8)(a:O)(x t f c n p:Int)(j5 j6 j7 j8 j9 j10 j11 j12 j13 j14:O)(j17:O)(P:Fl->Loc->List O->Prop):zI TL 79 jS (((((((((lawB.drop 2).drop 1).drop 1).drop 1).drop 3).drop 1).drop 1).drop 1).take 1) [("script",.lst cs),("deck",.loc 3),("form",.int f),("code",.int c),("many",.int n),("cells",.lst l),("before",.loc 15),("due",.bytes du),("asked",.lst ak),("signs",.bytes si),("told",.bytes td)] [a,.cell (some (.loc 13)),.cell (some (.loc 16)),.dict zH [.loc 4,.int x,.int t],.list vs,j5,j6,j7,j8,j9,j10,j11,j12,j13,j14,.list l15,.list l16,j17] P =
 (chk (decide (l.length<=big))
 ((zH=zH /\
   (3:Nat)≠(4:Nat)/\(0:Int)<=t/\t < (1000000:Int)/\yA vs/\(0:Int) < (↑l.length:Int)+(1:Int)/\(↑l.length:Int)+(1:Int) < (1000000:Int)) /\
  ∀ (v:Int) (vs':List V),
   (0:Int)<=v/\v < (↑l.length:Int)+(1:Int)/\yA vs' ->
    P Fl.next
     [(Str.ofString "script",V.lst cs),(Str.ofString "deck",V.loc (3:Nat)),(Str.ofString "form",V.int f),(Str.ofString "code",V.int c),
      (Str.ofString "many",V.int n),(Str.ofString "cells",V.lst l),(Str.ofString "before",V.loc (15:Nat)),(Str.ofString "due",V.bytes du),
      (Str.ofString "asked",V.lst ak),(Str.ofString "signs",V.bytes si),(Str.ofString "told",V.bytes td),(Str.ofString "place",V.int v)]
     [a,O.cell (some (V.loc (13:Nat))),O.cell (some (V.loc (16:Nat))),
      O.dict [V.str (Str.ofString "cells"),V.str (Str.ofString "mixed"),V.str (Str.ofString "turn")] [V.loc (4:Nat),V.int x,V.int (t+(1:Int))],O.list vs',j5,j6,
      j7,j8,j9,j10,j11,j12,j13,j14,O.list l15,O.list l16,j17])):=by kernel_rfl
theorem rL12t(cs vs l l15 l16 ak:List V)(du si td:List UInt8)(a:O)(x t f c n p:Int)(j5 j6 j7 j8 j9 j10 j11 j12 j13 j14:O)(j17:O)(P:Bool->List O->Prop):wpT TL 76 jS (whT (nth 0 (((((((((lawB.drop 2).drop 1).drop 1).drop 1).drop 3).drop 1).drop 1).drop 1).drop 1))) [("script",.lst cs),("deck",.loc 3),("form",.int f),("code",.int c),("many",.int n),("cells",.lst l),("before",.loc 15),("due",.bytes du),("asked",.lst ak),("signs",.bytes si),("told",.bytes td),("place",.int p)] [a,.cell (some (.loc 13)),.cell (some (.loc 16)),.dict zH [.loc 4,.int x,.int t],.list vs,j5,j6,j7,j8,j9,j10,j11,j12,j13,j14,.list l15,.list l16,j17] P =
 (∃ (l_1:List Cell),
 (l=List.map Cell.v l_1/\zW l_1/\(0:Int)<=p) /\
  P (zT l_1 p.toNat)
   [a,O.cell (some (V.loc (13:Nat))),O.cell (some (V.loc (16:Nat))),
    O.dict [V.str (Str.ofString "cells"),V.str (Str.ofString "mixed"),V.str (Str.ofString "turn")] [V.loc (4:Nat),V.int x,V.int t],O.list vs,j5,j6,j7,j8,j9,j10,
    j11,j12,j13,j14,O.list l15,O.list l16,j17]):=by kernel_rfl
theorem rL12b(cs vs l l15 l16 ak:List V)(du si td:List UInt8)(a:O)(x t f c n p:Int)(j5 j6 j7 j8 j9 j10 j11 j12 j13 j14:O)(j17:O)(P:Fl->Loc->List O->Prop):zI TL 76 jS (whB (nth 0 (((((((((lawB.drop 2).drop 1).drop 1).drop 1).drop 3).drop 1).drop 1).drop 1).drop 1))) [("script",.lst cs),("deck",.loc 3),("form",.int f),("code",.int c),("many",.int n),("cells",.lst l),("before",.loc 15),("due",.bytes du),("asked",.lst ak),("signs",.bytes si),("told",.bytes td),("place",.int p)] [a,.cell (some (.loc 13)),.cell (some (.loc 16)),.dict zH [.loc 4,.int x,.int t],.list vs,j5,j6,j7,j8,j9,j10,j11,j12,j13,j14,.list l15,.list l16,j17] P =
 (P Fl.next
 [(Str.ofString "script",V.lst cs),(Str.ofString "deck",V.loc (3:Nat)),(Str.ofString "form",V.int f),(Str.ofString "code",V.int c),(Str.ofString "many",V.int n),
  (Str.ofString "cells",V.lst l),(Str.ofString "before",V.loc (15:Nat)),(Str.ofString "due",V.bytes du),(Str.ofString "asked",V.lst ak),
  (Str.ofString "signs",V.bytes si),(Str.ofString "told",V.bytes td),(Str.ofString "place",V.int (p+(1:Int)))]
 [a,O.cell (some (V.loc (13:Nat))),O.cell (some (V.loc (16:Nat))),
  O.dict [V.str (Str.ofString "cells"),V.str (Str.ofString "mixed"),V.str (Str.ofString "turn")] [V.loc (4:Nat),V.int x,V.int t],O.list vs,j5,j6,j7,j8,j9,j10,j11,
  j12,j13,j14,O.list l15,O.list l16,j17]):=by kernel_rfl
theorem rL13(cs vs l l15 l16 ak:List V)(du si td:List UInt8)(a:O)(x t f c n p:Int)(j5 j6 j7 j8 j9 j10 j11 j12 j13 j14:O)(j17:O)(P:Fl->Loc->List O->Prop):zI TL 77 jS ((((((((((lawB.drop 2).drop 1).drop 1).drop 1).drop 3).drop 1).drop 1).drop 1).drop 1).drop 1) [("script",.lst cs),("deck",.loc 3),("form",.int f),("code",.int c),("many",.int n),("cells",.lst l),("before",.loc 15),("due",.bytes du),("asked",.lst ak),("signs",.bytes si),("told",.bytes td),("place",.int p)] [a,.cell (some (.loc 13)),.cell (some (.loc 16)),.dict zH [.loc 4,.int x,.int t],.list vs,j5,j6,j7,j8,j9,j10,j11,j12,j13,j14,.list l15,.list l16,j17] P =
 (chk (decide (l.length<=big))
 (chk (decide (l.length<=big))
  ([V.lst (cut l none (some p)),V.lst (cut l (some p) none)].length<=(1000000:Nat) /\
   xO
      (zP jS
       {kind:=ScopeKind.function,
        names :=
         [(Str.ofString ".0",NameKind.local),(Str.ofString "piece",NameKind.local),(Str.ofString "caps_run_octets",NameKind.globalImplicit),
          (Str.ofString "_law_other",NameKind.globalImplicit),(Str.ofString "caps",NameKind.free)],
        isGenerator:=false,isCoroutine:=false })
      [(Str.ofString "piece",V.lst (cut l none (some p)))] =
     true /\
    ∃ (form:Nat),
     ∃ (ps:List (Int×Int)),
      ∃ (l_1:List Cell),
       ((13:Nat)=(13:Nat) /\
         cut l none (some p)=List.map Cell.v l_1 /\
          zW l_1 /\
           CapsL
            [a,O.cell (some (V.loc (13:Nat))),O.cell (some (V.loc (16:Nat))),O.dict zH [V.loc (4:Nat),V.int x,V.int t],O.list vs,j5,j6,j7,j8,j9,
             j10,j11,j12,j13,j14,O.list l15,O.list l16,j17]
            form ps) /\
        (524:Addr)=(524:Addr) /\
         ∀ (ps':List (Int×Int)),
          yH ps' ->
           xO
              (zP jS
               {kind:=ScopeKind.function,
                names :=
                 [(Str.ofString ".0",NameKind.local),(Str.ofString "piece",NameKind.local),(Str.ofString "caps_run_octets",NameKind.globalImplicit),
                  (Str.ofString "_law_other",NameKind.globalImplicit),(Str.ofString "caps",NameKind.free)],
                isGenerator:=false,isCoroutine:=false })
              [(Str.ofString "piece",V.lst (cut l (some p) none))] =
             true /\
            ∃ (form_1:Nat),
             ∃ (ps:List (Int×Int)),
              ∃ (l_2:List Cell),
               ((13:Nat)=(13:Nat) /\
                 cut l (some p) none=List.map Cell.v l_2 /\
                  zW l_2 /\
                   CapsL
                    ([a,O.cell (some (V.loc (13:Nat))),O.cell (some (V.loc (16:Nat))),O.dict zH [V.loc (4:Nat),V.int x,V.int t],O.list vs,j5,
                       j6,j7,j8,j9,j10,j11,j12,j13,j14,O.list l15,O.list l16,j17].set
                     (14:Nat) (yO form ps'))
                    form_1 ps) /\
                (524:Addr)=(524:Addr) /\
                 ∀ (ps':List (Int×Int)),
                  yH ps' ->
                   chk (decide ((yT [] [zO form l_1 l_1.length,zO form_1 l_2 l_2.length]).length<=big))
                    (P (Fl.ret (V.bool (decide (yT [] [zO form l_1 l_1.length,zO form_1 l_2 l_2.length]=td))))
                     [(Str.ofString "script",V.lst cs),(Str.ofString "deck",V.loc (3:Nat)),(Str.ofString "form",V.int f),
                      (Str.ofString "code",V.int c),(Str.ofString "many",V.int n),(Str.ofString "cells",V.lst l),
                      (Str.ofString "before",V.loc (15:Nat)),(Str.ofString "due",V.bytes du),(Str.ofString "asked",V.lst ak),
                      (Str.ofString "signs",V.bytes si),(Str.ofString "told",V.bytes td),(Str.ofString "place",V.int p),
                      (Str.ofString "pieces",V.lst [V.bytes (zO form l_1 l_1.length),V.bytes (zO form_1 l_2 l_2.length)])]
                     [a,O.cell (some (V.loc (13:Nat))),O.cell (some (V.loc (16:Nat))),
                      O.dict [V.str (Str.ofString "cells"),V.str (Str.ofString "mixed"),V.str (Str.ofString "turn")] [V.loc (4:Nat),V.int x,V.int t],
                      O.list vs,j5,j6,j7,j8,j9,j10,j11,j12,j13,O.dict (List.map xJ ps') (List.map (kR form_1) ps'),O.list l15,O.list l16,
                      j17])))):=by kernel_rfl
end Mine
end
section
set_option tactic.hygienic false
namespace Mine
noncomputable def QL:Fl->Loc->List O->Prop:=retK fun v σ=>v=.bool true/\σ[0]?=some .tab
noncomputable def SL(a n2:O)(x t:Int)(vs:List V)(j5 j6 j7 j8 j9:O)(form:Nat)(ps:List (Int×Int))(r:List O):List O :=
 a::.cell (some (.loc 13))::n2::.dict zH [.loc 4,.int x,.int t]::.list vs::j5::j6::j7::j8::j9::.attrs xB (yW (xY form))::.inst 470 10::.attrs xF [.loc 11,.loc 14]::.inst 405 12::yO form ps::r
noncomputable def ML(cs:List V)(f:Nat)(r:Loc):Loc:=("script",.lst cs)::("deck",.loc 3)::("form",.int (f:Nat))::r
noncomputable abbrev D2:List Stmt:=lawB.drop 2
noncomputable abbrev D3:List Stmt:=D2.drop 1
noncomputable abbrev D4:List Stmt:=D3.drop 1
noncomputable abbrev D5:List Stmt:=D4.drop 1
noncomputable abbrev D8:List Stmt:=D5.drop 3
noncomputable abbrev D9:List Stmt:=D8.drop 1
noncomputable abbrev D10:List Stmt:=D9.drop 1
noncomputable abbrev D11:List Stmt:=D10.drop 1
noncomputable abbrev D12:List Stmt:=D11.drop 1
theorem dk{t:Int}{vs:List V}{b:Int}(a:0<=t)(b':t < 1000000)(c:yA vs)(d:0 < b)(e:b < 1000000):zH=zH/\(3:Nat)≠(4:Nat)/\0<=t/\t < 1000000/\yA vs/\0 < b/\b < 1000000:=⟨rfl,by decide,a,b',c,d,e⟩
noncomputable def R5(c n:Int)(r:Loc):Loc:=("code",.int c)::("many",.int n)::r
noncomputable def R8(l:List Cell)(f:Nat)(r:Loc):Loc:=("cells",.lst (l.map Cell.v))::("before",.loc 15)::("due",.bytes (zO f l l.length))::("asked",.lst (zY l l.length))::("signs",.bytes (yF l l.length))::r
noncomputable def R9(l:List Cell)(f:Nat)(r:Loc):Loc:=("told",.bytes (zO f l l.length))::r
noncomputable def E9(l:List Cell)(j:O):List O:=[.list (l.map Cell.v),.list (zY l l.length),j]
section
variable{cs:List V}{f:Nat}(hf:f<=4){x:Int}{j5 j6 j7 j8 j9:O}
include hf
theorem law13{j17:O}{t c n:Int}{vs:List V}{l:List Cell}{ps:List (Int×Int)}{p:Nat}(hl:zW l)(hk:yH ps)(hp:p<=l.length)(hg:zT l p=false) :
  zI TL 77 jS (D12.drop 1) (ML cs f (R5 c n (R8 l f (R9 l f [("place",.int (p:Nat))])))) (SL .tab (.cell (some (.loc 16))) x t vs j5 j6 j7 j8 j9 f ps (E9 l j17)) QL:=by
 have hb:=qI;have h1:=hl.2;refine Eq.mpr (rL13 cs vs (l.map Cell.v) (l.map Cell.v) (zY l l.length) (zY l l.length) (zO f l l.length) (yF l l.length) (zO f l l.length) .tab x t f c n (p:Nat) j5 j6 j7 j8 j9 (.attrs xB (yW (xY f))) (.inst 470 10) (.attrs xF [.loc 11,.loc 14]) (.inst 405 12) (yO f ps) j17 QL) ?_;have hpl:p<=(l.map Cell.v).length:=by rw [List.length_map];exact hp
 rw [cut_take hpl,cut_drop hpl,<- List.map_take,<- List.map_drop];have ho:=out_pieces (form:=f) hp hg;have o1:=jQ (ok_take hl p) f (k:=(l.take p).length) (by rw [List.length_take];lia);have o2:=jQ (ok_drop hl p) f (k:=(l.drop p).length) (by rw [List.length_drop];lia);refine zC (by rw [List.length_map];lia) (zC (by rw [List.length_map];lia) ⟨by simp,by kernel_rfl,f,ps,l.take p,⟨rfl,rfl,ok_take hl p,⟨rfl,rfl,rfl,rfl,rfl,hf,hk⟩⟩,rfl,fun ps' hk'=>⟨by kernel_rfl,f,ps',l.drop p,⟨rfl,rfl,ok_drop hl p,⟨rfl,rfl,rfl,rfl,rfl,hf,hk'⟩⟩,rfl,fun ps2 hk2=>?_⟩⟩);have ej:yT [] [zO f (l.take p) (l.take p).length,zO f (l.drop p) (l.drop p).length]=zO f l l.length:=by rw [joinB_nil,<- ho];simp
 rw [ej];have:=jQ hl f h1;exact zC (by lia) ⟨by rw [decide_eq_true rfl],rfl⟩
theorem law12{j17:O}{t c n:Int}{vs:List V}{l:List Cell}{ps:List (Int×Int)}{p:Nat}(hl:zW l)(hk:yH ps)(hp:p<=l.length) :
  zI TL 78 jS D12 (ML cs f (R5 c n (R8 l f (R9 l f [("place",.int (p:Nat))])))) (SL .tab (.cell (some (.loc 16))) x t vs j5 j6 j7 j8 j9 f ps (E9 l j17)) QL:=by
 refine hd_in 77 rfl (by decide) (by decide +kernel) ?_;refine jI 76 rfl (by kernel_rfl) (by kernel_rfl) (fun K m σ=>∃ p:Nat,K=l.length - p/\p<=l.length/\m=ML cs f (R5 c n (R8 l f (R9 l f [("place",.int (p:Nat))])))/\σ=SL .tab (.cell (some (.loc 16))) x t vs j5 j6 j7 j8 j9 f ps (E9 l j17)) (l.length - p) ⟨p,rfl,hp,rfl,rfl⟩ ?_;rintro K m σ ⟨p,rfl,hp,rfl,rfl⟩
 refine Eq.mpr (rL12t cs vs (l.map Cell.v) (l.map Cell.v) (zY l l.length) (zY l l.length) (zO f l l.length) (yF l l.length) (zO f l l.length) .tab x t f c n (p:Nat) j5 j6 j7 j8 j9 (.attrs xB (yW (xY f))) (.inst 470 10) (.attrs xF [.loc 11,.loc 14]) (.inst 405 12) (yO f ps) j17 _) ?_;refine ⟨l,⟨rfl,hl,by simp_all⟩,?_⟩;refine rwp (show ((p:Nat):Int).toNat=p from rfl) ?_;refine vA (fun hg=>?_) fun hg=>?_
 ·refine Eq.mpr (rL12b cs vs (l.map Cell.v) (l.map Cell.v) (zY l l.length) (zY l l.length) (zO f l l.length) (yF l l.length) (zO f l l.length) .tab x t f c n (p:Nat) j5 j6 j7 j8 j9 (.attrs xB (yW (xY f))) (.inst 470 10) (.attrs xF [.loc 11,.loc 14]) (.inst 405 12) (yO f ps) j17 _) ?_;have hlt:p < l.length:=by
   have:=(jU hg).2.1;unfold jB at this;split at this
   ·rename_i h;exact (List.getElem?_eq_some_iff.mp h).1
   ·cases this
  exact ⟨l.length - (p+1),by lia,p+1,rfl,hlt,rfl,rfl⟩
 ·exact zR (law13 hf hl hk hp hg)
theorem law9{j17:O}{t c n:Int}{vs:List V}{l:List Cell}{ps:List (Int×Int)}(hl:zW l)(hk:yH ps)(t0:0<=t)(t1:t < 5000)(hi:yA vs) :
  zI TL 81 jS D9 (ML cs f (R5 c n (R8 l f (R9 l f [])))) (SL .tab (.cell (some (.loc 16))) x t vs j5 j6 j7 j8 j9 f ps (E9 l j17)) QL:=by
 have hb:=qI;have h1:=hl.2;refine seqP (n:=79) rfl (by decide +kernel) ?_;refine Eq.mpr (rL9 cs vs (l.map Cell.v) (l.map Cell.v) (zY l l.length) (zY l l.length) (zO f l l.length) (yF l l.length) (zO f l l.length) .tab x t f c n 0 j5 j6 j7 j8 j9 (.attrs xB (yW (xY f))) (.inst 470 10) (.attrs xF [.loc 11,.loc 14]) (.inst 405 12) (yO f ps) j17 _) ?_;obtain ⟨a1,a2⟩:=ask_eq l l.length;refine xC (by refine rwp (decide_eq_true rfl) ?_;rfl) (xD a1 (zD a2 (xC rfl (xD (by rw [pl_cells];rfl) (zD (eq_cells l) (xC rfl (zR ?_)))))));refine seqP (n:=78) rfl (by decide +kernel) ?_;refine Eq.mpr (rL10 cs vs (l.map Cell.v) (l.map Cell.v) (zY l l.length) (zY l l.length) (zO f l l.length) (yF l l.length) (zO f l l.length) .tab x t f c n 0 j5 j6 j7 j8 j9 (.attrs xB (yW (xY f))) (.inst 470 10) (.attrs xF [.loc 11,.loc 14]) (.inst 405 12) (yO f ps) j17 _) ?_;have next:(kN (fun m σ=>zI TL 79 jS D11 m σ QL) QL) .next (ML cs f (R5 c n (R8 l f (R9 l f [])))) (SL .tab (.cell (some (.loc 16))) x t vs j5 j6 j7 j8 j9 f ps (E9 l j17)):=by
  refine zR (seqP (n:=77) rfl (by decide +kernel) ?_);refine Eq.mpr (rL11 cs vs (l.map Cell.v) (l.map Cell.v) (zY l l.length) (zY l l.length) (zO f l l.length) (yF l l.length) (zO f l l.length) .tab x t f c n 0 j5 j6 j7 j8 j9 (.attrs xB (yW (xY f))) (.inst 470 10) (.attrs xF [.loc 11,.loc 14]) (.inst 405 12) (yO f ps) j17 _) ?_;rw [List.length_map];refine zC (by lia) ⟨dk t0 (by lia) hi (by simp_all) (by lia),fun v vs' ⟨v0,v1,hv⟩=>zR ?_⟩;obtain ⟨p,rfl⟩:=Int.eq_ofNat_of_zero_le v0;exact law12 hf hl hk (by lia)
 refine zX (fun hf2=>?_) fun _=>next;obtain ⟨ts,e1,e2⟩:=read_told hl (form:=f) (by lia);have o1:=jQ hl f h1;have o2:=sign_len hl l.length;exact ⟨ts,_,⟨e1,e2,o1,by lia⟩,xC (by refine rwp (decide_eq_true rfl) ?_;rfl) next⟩
theorem law5{t c n:Int}{vs:List V}{ps:List (Int×Int)}(hk:yH ps)(t0:0<=t)(t1:t < 1000)(hi:yA vs) :
  zI TL 85 jS D5 (ML cs f (R5 c n [])) (SL (.raw (tabObj #[])) (.cell none) x t vs j5 j6 j7 j8 j9 f ps []) QL:=by
 have hb:=qI;refine cut_at (i:=3) (n:=81) rfl (by decide +kernel) ?_;refine Eq.mpr (rL5 cs vs (.raw (tabObj #[])) x t f j5 j6 j7 j8 j9 (.attrs xB (yW (xY f))) (.inst 470 10) (.attrs xF [.loc 11,.loc 14]) (.inst 405 12) (yO f ps) c n _) ?_;refine ⟨⟨rfl,by decide,t0,t1,hi⟩,fun l t' vs' zz0=>?_⟩;apply gk;intro J;obtain ⟨hl,t2,t3,hi'⟩:=zz0;apply J;clear J;have h1:=hl.2;refine zC (by rw [List.length_map];lia) ⟨l,⟨rfl,hl,by lia,by lia⟩,zR ?_⟩;refine rwp (show ((f:Nat):Int).toNat=f from rfl) ?_;refine seqP (n:=80) rfl (by decide +kernel) ?_;refine Eq.mpr (rL8 cs vs' (l.map Cell.v) (l.map Cell.v) [] (zY l l.length) (zO f l l.length) (yF l l.length) [] x t' f c n 0 j5 j6 j7 j8 j9 (.attrs xB (yW (xY f))) (.inst 470 10) (.attrs xF [.loc 11,.loc 14]) (.inst 405 12) (yO f ps) _) ?_;refine ⟨rfl,f,ps,l,⟨rfl,rfl,hl,⟨rfl,rfl,rfl,rfl,rfl,hf,hk⟩⟩,rfl,.tab,.cell (some (.loc 13)),.dict zH [.loc 4,.int x,.int t'],.list vs',j5,j6,j7,j8,j9,.attrs xB (yW (xY f)),.inst 470 10,.attrs xF [.loc 11,.loc 14],.inst 405 12,yO f ps,.list (l.map Cell.v),Str.ofString "law.<locals>." ++ Str.ofString "<lambda>",by kernel_rfl,fun ps' hk'=>zR ?_⟩;exact law9 hf hl hk' t2 (by lia) hi'
theorem law4{t c:Int}{vs:List V}{ps:List (Int×Int)}(hk:yH ps)(hc:c∈codesI)(t0:0<=t)(t1:t < 500)(hi:yA vs) :
  zI TL 86 jS D4 (ML cs f [("code",.int c)]) (SL (.raw (tabObj #[])) (.cell none) x t vs j5 j6 j7 j8 j9 f ps []) QL:=by
 refine hd_in 85 rfl (by decide) (by decide +kernel) ?_;refine for_in 84 rfl (by kernel_rfl) ?_;refine Eq.mpr (rL4e cs vs (.raw (tabObj #[])) x t f j5 j6 j7 j8 j9 (.attrs xB (yW (xY f))) (.inst 470 10) (.attrs xF [.loc 11,.loc 14]) (.inst 405 12) (yO f ps) c _) ?_;refine ⟨dk t0 (by lia) hi (by decide) (by decide),fun v vs' zz0=>?_⟩;apply gk;intro J;obtain ⟨v0,v1,hv⟩:=zz0;apply J;clear J;refine qL (a:=[V.int 0,V.int 1,V.int 2,V.int 4,V.int 5,V.int 6,V.int v]) rfl ?_;refine forX_in 83 rfl (by kernel_rfl) (fun k m σ=>(∃ r,((k=0/\r=[])\/∃ n,r=([("many",.int n)]:Loc))/\m=ML cs f (("code",.int c)::r))/\∃ ps,yH ps/\σ=SL (.raw (tabObj #[])) (.cell none) x (t+1) vs' j5 j6 j7 j8 j9 f ps []) ⟨⟨[],.inl ⟨rfl,rfl⟩,rfl⟩,ps,hk,rfl⟩ ?_ ?_
 ·rintro k u m σ hx ⟨⟨r,hr,rfl⟩,ps',hk',rfl⟩
  obtain ⟨n,rfl,n0,n1⟩:∃ n,u=.int n/\0<=n/\n<=1000:=by
   have:=List.mem_of_getElem? hx;simp only [List.mem_cons,List.not_mem_nil,or_false] at this;rcases this with rfl | rfl | rfl | rfl | rfl | rfl | rfl
   ·exact ⟨_,rfl,by decide,by decide⟩
   ·exact ⟨_,rfl,by decide,by decide⟩
   ·exact ⟨_,rfl,by decide,by decide⟩
   ·exact ⟨_,rfl,by decide,by decide⟩
   ·exact ⟨_,rfl,by decide,by decide⟩
   ·exact ⟨_,rfl,by decide,by decide⟩
   ·exact ⟨_,rfl,v0,by lia⟩
  refine ⟨[("many",.int n)],by kernel_rfl,by kernel_rfl,?_⟩;have e:xN (ML cs f (("code",.int c)::r)) [("many",.int n)]=ML cs f (R5 c n []):=by
   rcases hr with ⟨_,rfl⟩ | ⟨n',rfl⟩ <;> rfl
  refine rwp e ?_;refine Eq.mpr (rL4b cs vs' (.raw (tabObj #[])) x (t+1) f j5 j6 j7 j8 j9 (.attrs xB (yW (xY f))) (.inst 470 10) (.attrs xF [.loc 11,.loc 14]) (.inst 405 12) (yO f ps') c n _) ?_;refine ⟨f,ps',⟨rfl,⟨rfl,rfl,rfl,rfl,rfl,hf,hk'⟩,hc,n0,n1⟩,fun ps2 hk2=>⟨⟨by lia,by lia,hc,n0,n1⟩,xC ?_ ?_⟩⟩
  ·refine rwp (show ((f:Nat):Int).toNat=f from rfl) ?_;refine rwp (decide_eq_true rfl) ?_;rfl
  ·exact ⟨⟨_,.inr ⟨n,rfl⟩,rfl⟩,ps2,hk2,rfl⟩
 ·rintro m σ ⟨⟨r,hr,rfl⟩,ps',hk',rfl⟩
  rcases hr with ⟨h,_⟩ | ⟨n,rfl⟩
  ·cases h
  ·exact zR (law5 hf hk' (by lia) (by lia) hv)
end
theorem word_at(g:Nat)(h:g < 4):([V.none,.bytes (yI 1),.bytes (yI 2),.bytes (yI 3),.bytes (yI 4)]:List V)[g+1]?=some (.bytes (yI (g+1))):=by
 match g,h with
 | 0,_=>rfl
 | 1,_=>rfl
 | 2,_=>rfl
 | 3,_=>rfl
theorem law0{cs:List Int}(h:cs.length<=63):zI TL 90 jS lawB [("script",.lst (cs.map .int))] [.raw (tabObj #[]),.cell none,.cell none] QL:=by
 refine cut_at (i:=2) (n:=87) rfl (by decide +kernel) ?_;refine Eq.mpr (rL0 (cs.map .int) (.raw (tabObj #[])) _) ⟨cs,⟨rfl,by lia⟩,fun x vs hi=>⟨dk (by simp_all) (by simp_all) hi (by decide) (by decide),fun v vs' ⟨v0,v1,hi'⟩=>zR ?_⟩⟩;apply gk;intro J;obtain ⟨f,rfl⟩:=Int.eq_ofNat_of_zero_le v0;apply J;clear J;have hf:f<=4:=by lia
 refine seqP (n:=86) rfl (by decide +kernel) ?_;refine Eq.mpr (rL2 (cs.map .int) vs' (.raw (tabObj #[])) x (0+1) f _) ?_;have rest:∀ j8,(kN (fun m σ=>zI TL 87 jS D3 m σ QL) QL) .next (ML (cs.map .int) f []) (SL (.raw (tabObj #[])) (.cell none) x (0+1) vs' (.list [.bytes [120]]) (.dict [] []) (.dict [] []) j8 (.dict [] []) f [] []):=fun j8=>by
  refine zR (seqP (n:=85) rfl (by decide +kernel) ?_);refine Eq.mpr (rL3 (cs.map .int) vs' (.raw (tabObj #[])) x (0+1) f (.list [.bytes [120]]) (.dict [] []) (.dict [] []) j8 (.dict [] []) (.attrs xB (yW (xY f))) (.inst 470 10) (.attrs xF [.loc 11,.loc 14]) (.inst 405 12) (yO f []) _) ?_;refine ⟨dk (by decide) (by decide) hi' (by decide) (by decide),fun v2 vs2 zz0=>?_⟩;apply gk;intro J;obtain ⟨w0,w1,hi2⟩:=zz0;obtain ⟨n,e1,e2⟩:=code_at w0 w1;apply J;clear J;refine zC ⟨by have:=qI;exact Nat.le_add_left _ _,by refine rwp (jT w0) ?_;exact w0⟩ (zD e1 ⟨n,rfl,zR ?_⟩);exact law4 hf ⟨List.nodup_nil,fun p hp=>(nomatch hp)⟩ e2 (by decide) (by decide) hi2
 refine zX (fun h0=>?_) fun h0=>?_
 ·obtain rfl:f=0:=by simp_all
  exact rest (.dict [] [])
 ·refine rwp (jT (show (0:Int)<=(f:Nat) by omega)) ?_;refine rwp (show ((f:Nat):Int).toNat=f from rfl) ?_;refine zC ⟨by have:=qI;exact Nat.le_add_left _ _,by omega⟩ ?_;obtain ⟨g,rfl⟩:∃ g,f=g+1:=⟨f - 1,by lia⟩
  exact zD (word_at g (by assumption)) ⟨⟨by kernel_rfl,trivial⟩,by kernel_rfl,rest (.dict [.bytes jN] [.bytes (yI (g+1))])⟩
end Mine
end
section
namespace Mine
noncomputable abbrev theRow:RowW:=PySem.Challenge.rw_pq1188_01.row.toRowW
theorem ints_den{w:World}{own ρ:List Addr}{h:Heap}:∀ {ns:List Int} {vs:List Value} {as:List Addr},ReadsAll h vs (ns.map .int) as->DenL w own ρ h (ns.map .int) vs:=by
 intro zv;induction zv with
 | nil =>
  intro vs as r;cases r;rfl
 | cons n ns ih =>
  intro vs as r;cases r with
  | cons a b=>cases a with
   | int i t=>exact DenL.cons ⟨t,rfl⟩ (ih b)
theorem okA:AOk 431 callerA:=⟨by decide +kernel,by decide +kernel,rfl,rfl⟩
section
variable{w:World}{mb:Str->Option Value}
theorem specsL{K:Frag}(B:vE P0 w K mb):TabsOk P0 w K mb 385 TL :=
 B _ _ (zS (ok500 B) (by exact Nat.le_add_left _ _) (zS (ok507 B) (by exact Nat.le_add_left _ _) (zS (ok444L B) (by exact Nat.le_add_left _ _) (zS (ok519 B) (by exact Nat.le_add_left _ _) (zS (ok538 B) (by exact Nat.le_add_left _ _) (zS (ok557 B) (by exact Nat.le_add_left _ _) (zS (ok451 B) (by exact Nat.le_refl _) (zS (ok564 B) (by lia) (zS (ok552 B) (by lia) (zS (ok524 B) (by lia) yK))))))))))
theorem law_runs{K:Frag}(Z:FactsK K){s:Shared}(hb:∀ x:Str,x ≠ "__name__" -> mb x=bootBuiltins x) (st:Stat K mb [566] s.heap) (tab:s.heap.get? 566=some (tabObj #[])) {l:Addr} {cs:List Int} (hl:cs.length<=63)
  (d:Den w [566] [566] s.heap (.lst (cs.map .int)) (.ref l)) :
  codeAny (model P0 w) callerA (.call (.ref 569) ⟨[.ref l],[]⟩) (fun r s'=>r=.ok (.ret (.bool true))/\s'.gens=s.gens/\s'.os=s.os/\(∃ ps,s'.heap.get? 566=some (tabObj ps))/\s.heap.objs.size<=s'.heap.objs.size/\∀ b o,s.heap.get? b=some o->b≠566->s'.heap.get? b=some o) s:=by
 have hT:=specsL (base_ok (w:=w) Z (prog:=P0) hb);have FO:=law_fn Z (w:=w);apply gk;intro J;obtain ⟨name,params,dV,kV,doc,pm,cdv,ct,an,oc,od,osl,hK,hcd,hbind⟩:=FO.ex;apply J;clear J;have hc:cdv=.ref 568:=by
  have:=Z.f23;unfold fnCode at this;rw [hK] at this;exact Option.some.inj this
 subst hc;apply gk;intro J;obtain ⟨dv,ddv,hB⟩:=hbind [566] [566] s [.ref l] st.in (fun a o e=>(st.k a o e).2) (show 1<=lawFi.params.length by decide +kernel) (show lawFi.params.length<=1+lawFi.dfl.length by decide +kernel);apply J;clear J;have hdv:dv=[]:=by
  have:lawFi.dfl=[]:=by kernel_rfl
  rw [this,List.drop_nil] at ddv;exact ddv
 subst hdv;have lt:566 < s.heap.objs.size:=Heap.lt_size tab;refine codeAny_call_function okA.room (st.in _ _ hK) rfl FO.co FO.gen rfl (codeRec_of st.in hcd) (up (hB _ _ _ _ ?_));simp only [newFunctionEnv,Option.isSome_none,Bool.false_eq_true,if_false];refine wpAny_mono (Q:=fun env s₂=>s₂.heap.NoLimit/\codeAny (model P0 w) callerA (.func lawFi.body env) _ s₂) (E:=noE) ?_ (fun _ _ x=>x) fun _ _ x=>x.elim;refine wpAny_bind (up<|wpAny_alloc ?_);refine wpAny_bind (wpAny_layCells _ (fun name kind cells=>by cases hkc:kind==NameKind.cell <;> simp [hkc]) _ _ _ _ ?_);have S0:Sat w [566,s.heap.objs.size] s.heap.objs.size [566] [] [.raw (tabObj #[])] (s.heap.push { cls:=.type "frame",data:=.dict #[] }):=by
  refine ⟨rfl,by simp,fun q=>Nat.ne_of_gt lt (List.mem_singleton.mp q),fun a ha=>by simp at ha ⊢;exact ha.symm,fun a ha=>by
   rw [Heap.size_push];rcases List.mem_cons.mp ha with q | q
   ·refine rwp q ?_;exact Nat.lt_succ_of_lt lt
   ·refine rwp (List.mem_singleton.mp q) ?_;exact Nat.lt_succ_self _,fun i X a e1 e2=>?_,_,Heap.Ns.new s.heap _,fun x V e=>by cases e⟩
  induction i using Nat.casesAuxOn with
  | zero=>cases e1;cases e2;exact ⟨_,Heap.get?_push_of_some _ tab,rfl⟩
  | succ i=>simp at e1
 have keep:∀ b o,s.heap.get? b=some o->(s.heap.push { cls:=.type "frame",data:=.dict #[] }).get? b=some o:=fun b o e=>Heap.get?_push_of_some _ e;have st0:Stat K mb [566,s.heap.objs.size] (s.heap.push { cls:=.type "frame",data:=.dict #[] }) :=
  st.ev (fun a o e n=>⟨keep _ _ e,fun q=>by
   rcases List.mem_cons.mp q with q | q
   ·exact n (q ▸ .head _)
   ·rw [List.mem_singleton] at q;exact Nat.ne_of_lt (Heap.lt_size e) q⟩) (fun a hl hn q=>by
   rcases List.mem_cons.mp q with q | q
   ·exact hn (q ▸ .head _)
   ·rw [List.mem_singleton] at q;exact Nat.ne_of_lt hl q) (by rw [Heap.size_push];exact Nat.le_succ _)
 apply gk;intro J;obtain ⟨o1,r1,x1,S1,C1⟩:=cells_ok lawFi.scope.names (s:={ s with heap:=s.heap.push { cls:=.type "frame",data:=.dict #[] } }) S0 (acc:=[]) (acc':=[]) (fun _ _ q=>by cases q);apply J;clear J;have I1:In w K mb (newEnv lawFi.scope s.heap.objs.size mainGlobals (cellsFrom (s.heap.push { cls:=.type "frame",data:=.dict #[] }).objs.size lawFi.scope.names []) (lawFi.qual ++ ".<locals>.") (some 569) (.ref 568) none builtinsNs)
   jS o1 s.heap.objs.size r1 [] [.raw (tabObj #[]),.cell none,.cell none] { s with heap:=pushCells (s.heap.push { cls:=.type "frame",data:=.dict #[] }) lawFi.scope.names }:=by
  refine ⟨S1,st0.ev (x1.ev S0.sub) x1.new x1.size,⟨FO.kind,rfl,rfl,rfl,rfl,C1,fun q e=>?_⟩⟩;cases e;exact ⟨by kernel_rfl,568,566,rfl,x1.pre 0 566 rfl,Z.f24⟩
 have ev1:Ev [566] s.heap o1 (pushCells (s.heap.push { cls:=.type "frame",data:=.dict #[] }) lawFi.scope.names):=fun b o e n=>⟨(x1.ev S0.sub b o (keep _ _ e) (fun q=>by
  rcases List.mem_cons.mp q with q | q
  ·exact n (q ▸ .head _)
  ·rw [List.mem_singleton] at q;exact Nat.ne_of_lt (Heap.lt_size e) q)).1,(x1.ev S0.sub b o (keep _ _ e) (fun q=>by
  rcases List.mem_cons.mp q with q | q
  ·exact n (q ▸ .head _)
  ·rw [List.mem_singleton] at q;exact Nat.ne_of_lt (Heap.lt_size e) q)).2⟩
 refine wpAny_bind (binds_ok (mM:=model P0 w) (F:=jS) _ (fun _ _ _=>rfl) I1 (bs:=[("script",.lst (cs.map .int))]) (m':=[("script",.lst (cs.map .int))]) (σ':=[.raw (tabObj #[]),.cell none,.cell none]) ?_ ?_ ?_ fun s2 x2 I2=>?_)
 ·kernel_rfl
 ·exact DenL.cons (d.mono ev1 fun i a e=>x1.pre i a e) rfl
 ·kernel_rfl
 ·refine wpAny_pure ⟨I2.st.lim,codeAny_func ?_⟩;refine wpAny_mono ((all_ok hT 90).ss (law0 hl) okA.deeper I2) (fun fl s3 zz0=>?_) fun _ _ x=>x.elim;apply gk;intro J;obtain ⟨o3,r3,c,m3,σ3,x3,S3,d3,q3⟩:=zz0;apply J;clear J;have xx:=(x1.trans x2).trans x3;have r0:r3[0]?=some 566:=xx.pre 0 566 rfl;induction c using Mine.Fl.casesOn with
  | next=>exact absurd q3.1 (by nofun)
  | ret v =>
   apply gk;intro J;obtain ⟨u,e,dv⟩:=d3;apply J;clear J;subst e;apply gk;intro J;obtain ⟨rfl,ht⟩:=q3;apply J;clear J;obtain rfl:u=.bool true:=dv;apply gk;intro J;obtain ⟨o,go,ps,rfl⟩:=S3.objs 0 _ 566 ht r0;apply J;clear J;exact ⟨rfl,xx.gens,xx.os,⟨ps,go⟩,Nat.le_trans (by show _<=(s.heap.push _).objs.size;rw [Heap.size_push];exact Nat.le_succ _) xx.size,fun b o e n=>xx.keep b o (keep _ _ e) fun q=>by
    rcases List.mem_cons.mp q with q | q
    ·exact Nat.ne_of_lt (Heap.lt_size e) q
    ·exact n (List.mem_singleton.mp q)⟩
  | _=>exact q3.elim
end
theorem ns_some_of{K:Frag}{h:Heap}{N:Addr}{mg:Str->Option Value}{n:Str}{v:Value}(X:K.In h)(G:h.Ns N mg)(e:nsIn K N n=some (some v)):mg n=some v:=by
 apply gk;intro J;obtain ⟨o,es,ep,ho,hd,_,hf⟩:=G;apply J;clear J;unfold nsIn at e;split at e
 ·rename_i c d es' n' sl q
  have:=X _ _ q;rw [ho] at this;cases this;cases hd;split at e
  ·rename_i he
   cases e;rw [<- hf];unfold nsFind findBy;refine rwp Array.find?_toList.symm ?_;refine rwp he ?_;rfl
  ·rename_i he
   split at e <;> cases e
 ·cases e
theorem stat0{w:World}(Z:Facts w){s₀ s₁:Shared}{mg mb:Str->Option Value}{R:WRecords}(G:Ground q0 looseL R (XL q0 []) w s₀ mg mb s₁.heap)(y:YP0 w s₁.heap):Stat (KW w) mb [566] s₁.heap:=by
 have tab:=tab_at Z y;have lt:566 < s₁.heap.objs.size:=Heap.lt_size tab;apply gk;intro J;obtain ⟨bm,ob,b1,b2,b3,b4,b5,b6⟩:=G.T.bmain;apply J;clear J;refine ⟨fun a o e=>⟨KW_in Z y a o e,fun q=>(KW_not Z e).2 (List.mem_singleton.mp q)⟩,Option.isSome_iff_exists.mp Z.k.f20,G.T.b,by decide +kernel,G.T.nolimit,by decide +kernel,⟨by decide +kernel,Nat.lt_trans (by decide +kernel) lt⟩,G.T.nodigits,
  ⟨mg,bm,ob,G.T.g,b1,b2,fun q=>?_,fun q=>?_,b3,b4,b5,b6⟩⟩
 ·apply gk;intro J;obtain ⟨o,es,ep,ho,hd,_⟩:=G.T.g;apply J;clear J;rw [q,ho] at b3;cases b3;rw [b6] at hd;cases hd
 ·rw [List.mem_singleton.mp q,tab] at b3;cases b3;cases b4
theorem walk0{d:DefRec}(hd:d.name = "law"):WalkM q0 looseL (XL q0 []) YP0 theRow d:=by
 intro w s₀ s₁ mg mb G y a ha hg args vals as hpre hlay L;have Z:=(run1 w).2.2.2;have hsh:=(pre_splitW hpre).1;have hcond:=(pre_splitW hpre).2;have hpre':=hpre
 wrow_hasAll hsh hlay
 rename_i cs _ _ _ _ _
 w_cond hcond
 have hl:cs.length<=63:=by
  rename_i z1 z2
  lia
 have st:=stat0 Z G y;have tab:=tab_at Z y;apply gk;intro J;obtain ⟨v,vs,as1,as2,rfl,rfl,r1,r2⟩:=readsAllW_cons_inv L.reads;obtain ⟨rfl,rfl⟩:=readsAllW_nil_inv r2;have r3:=reads_of_readsW _ r1;obtain ⟨l,its,rfl,gl,dl⟩:∃ l its,v=.ref l/\s₁.heap.get? l=some { cls:=.type "list",data:=.seq its }/\DenL w [566] [566] s₁.heap (cs.map .int) its.toList:=by
  cases r3 with
  | list ho hc hd ri=>exact ⟨_,_,rfl,PySem.W.X.script_obj L ⟨_,ho,hc,_,hd⟩,ints_den ri⟩
 apply J;clear J;have nl:l≠566:=fun q=>by rw [q,tab] at gl;cases gl
 have ha':a=569:=by
  rw [hd] at ha;have:=ns_some_of st.in G.T.g Z.k.f21;rw [ha] at this
  injection this with this
  injection this
 subst ha';refine wpAny_call (codeAny_mono (law_runs Z.k G.T.builtins st tab hl ⟨l,its,0,rfl,fun q=>nl (List.mem_singleton.mp q),gl,dl⟩) fun r s' zz0=>?_);apply gk;intro J;obtain ⟨e,h1,h2,⟨ps,h3⟩,h4,h5⟩:=zz0;apply J;clear J;subst e;refine ⟨.inl ⟨_,.bool true,[],rfl,raisesW_false (by nofun),.bool _,postW_of (by wrow_shape) (by wtm_val) (by w_fin),fun _=>⟨List.nodup_nil,by nofun⟩⟩,⟨fun b o e=>?_,fun b o e=>?_⟩,h2,AllBare.of_eq (h1.trans hg)⟩
 ·by_cases hb:b=566
  ·subst hb;rw [tab] at e;cases e;apply gk;intro J;obtain ⟨o,vs,_,_,_,_,_,_,_,e1,e2,e3,e4,_⟩:=codeHd_of_K st.in Z.k.f24;apply J;clear J;exact .inr (.inl ⟨⟨568,o,vs,e1,e2,e3,e4⟩,rfl,#[],ps,rfl,by refine rwp h3 ?_;simp [tabObj]⟩)
  ·exact .inl (h5 b o e hb)
 ·by_cases hb:b=566
  ·exact ⟨_,hb ▸ h3⟩
  ·exact ⟨o,h5 b o e hb⟩
end Mine
end
section
set_option tactic.hygienic false
namespace Mine
theorem look2{a b:Bool}(x:a=true)(y:b=true):(a&&b)=true:=by rw [x,y];rfl
set_option maxHeartbeats 4000000 in
theorem said0:PySem.Challenge.rw_pq1188_01.wellSaid=true:=by
 rw [PySem.W.Fast.te9446332074065402090];unfold PySem.W.Fast.tw9446332074065402090
 iterate 18 refine look2 ?_ (by as_aux_lemma=>kernel_rfl)
 unfold PySem.W.Fast.tw17960256430627541270
 iterate 2 refine look2 ?_ (by as_aux_lemma=>kernel_rfl)
 unfold PySem.W.Fast.tw2436336058641802641
 iterate 13 refine look2 ?_ (by as_aux_lemma=>kernel_rfl)
 unfold PySem.W.Fast.tw12908688711261696721;refine look2 (look2 ?_ ?_) (by as_aux_lemma=>kernel_rfl)
 ·iterate 3 refine look2 ?_ (by as_aux_lemma=>kernel_rfl)
  as_aux_lemma=>kernel_rfl
 ·refine (congrArg (fun k=>PySem.W.Fast.tw8326940854005059898 k _) (?_:_=(⟨false,none,false,none,false,false,false,false,[],none⟩:Look))).trans ?_
  ·as_aux_lemma=>kernel_rfl
  ·as_aux_lemma=>kernel_rfl
theorem d0_some:(defOf q0 "law").isSome=true:=by kernel_rfl
noncomputable def d0:DefRec×List (Str×PySem.Expr):=(defOf q0 "law").get d0_some
theorem d0_eq:defOf q0 "law" = some (d0.1,d0.2):=(Option.some_get d0_some).symm
end Mine
theorem PySem.Challenge.cw_pq1188_01_holds : PySem.Challenge.rw_pq1188_01.Holds := by
 refine holds_law Mine.said0 fun said=>?_;exact Mine.PySem.W.holds_open (r:=PySem.Challenge.rw_pq1188_01.row) (q:=Mine.q0) (loose:=Mine.looseL) (Xt:=Mine.Xt0) (XP:=XL Mine.q0 []) (Yf:=Mine.Yf0) (Ya:=Mine.Ya0) (YP:=Mine.YP0) (N:=7390) Mine.left0 Mine.hY0 Mine.hYk0 (fun s e=>xl_of s (Bool.and_eq_true_iff.mp e).1) XL.keeps
  Mine.d0_eq (by kernel_rfl) (by kernel_rfl) (fun s hs=>recFacts_of (Bool.and_eq_true_iff.mp hs).2) rfl said (by kernel_rfl) ⟨rfl,rfl,rfl,rfl,rfl,by decide +kernel⟩ (by w_witness2) (Mine.walk0 (defOf_name Mine.d0_eq))
end
