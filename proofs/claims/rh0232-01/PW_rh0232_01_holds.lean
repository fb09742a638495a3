import PyProof.Rows.All
import Wide.All
import OpenK.AllK
import Wide.FinOn
import Lean
import PySem.Challenge.RW_rh0232_01
set_option Elab.async false
set_option maxRecDepth 100000
set_option genSizeOfSpec false
set_option genSizeOf false
set_option genInjectivity false
set_option linter.all false
local macro_rules | `(tactic| trivial) => `(tactic| first | assumption | exact Nat.le_of_lt (by assumption) | lia)
section
namespace Mine.Internal
theorem wZ{a b:Nat}(h:b≤a):(a:Int)-b=((a-b:Nat):Int):=(Int.ofNat_sub h).symm
theorem jF{a:Nat}(h:0<a):(a:Int)-1=((a-1:Nat):Int):=wZ h
theorem tX{a b:Nat}:min (a:Int) b=((min a b:Nat):Int):=by
  by_cases h:a≤b
  · rw[Nat.min_eq_left h];exact Int.min_eq_left (Int.ofNat_le.mpr h)
  · rw[Nat.min_eq_right (Nat.le_of_not_le h)];exact Int.min_eq_right (Int.ofNat_le.mpr (Nat.le_of_not_le h))
theorem nJ{k c:Nat}(h:0<c):min (k:Int) ((c:Int)-1)=((min k (c-1):Nat):Int):=by rw[jF h];exact tX
theorem CY{k c:Nat}(h:0<c):min ((k:Int)+1) ((c:Int)-1)=((min (k+1) (c-1):Nat):Int):=nJ (k:=k+1) h
theorem zd{x k n:Nat}(h:0<n):(x:Int)+min (k:Int) ((n:Int)-1)=((x+min k (n-1):Nat):Int):=by rw[nJ h];rfl
theorem EK{g k m:Nat}:(g:Int)+min (k:Int) (max 0 ((m:Int)-1))=((g+min k (m-1):Nat):Int):=by
  cases m with
  |zero=>exact congrArg ((g:Int)+ ·) (tX (a:=k) (b:=0))
  |succ m=>
    rw[jF (Nat.succ_pos m),Int.max_eq_right (Int.natCast_nonneg _),tX]
    rfl
theorem CZ{n:Int}:(max 0 n).toNat=n.toNat:=by
  rcases Int.le_total 0 n with h|h
  · rw[Int.max_eq_right h]
  · rw[Int.max_eq_left h,Int.toNat_of_nonpos h];rfl
theorem ze{n:Nat}(h:0<n):(-1+(n:Int)).toNat=n-1:=by rw[Int.add_comm];exact congrArg Int.toNat (jF h)
theorem mu{x n:Nat}(h:0<n):(x:Int)+(n:Int)-1=((x+n-1:Nat):Int):=jF (Nat.lt_of_lt_of_le h (Nat.le_add_left _ _))
theorem tY{x n:Nat}(h:0<n):(x:Int)+(n:Int)-1=((x+(n-1):Nat):Int):=(mu h).trans (congrArg Int.ofNat (Nat.add_sub_assoc h x))
theorem C0{s:Nat}(h:s<7):s=0∨s=1∨s=2∨s=3∨s=4∨s=5∨s=6:=(by decide:∀s<7,s=0∨s=1∨s=2∨s=3∨s=4∨s=5∨s=6) s h
theorem Ac{a b:Nat}(h:a≤b):a-min a b=0:=by rw[Nat.min_eq_left h,Nat.sub_self]
theorem C1{a b:Nat}(h:a<b):min a (b-1)=a:=Nat.min_eq_left (Nat.le_sub_one_of_lt h)
theorem qI{a b:Nat}(h:a≤b):a+(b-a)=b:=Nat.add_sub_cancel' h
theorem tZ{a b c:Nat}(h1:a≤c)(h2:b≤c):a+(b-a)≤c:=by
  rcases Nat.le_total a b with h|h
  · rw[Nat.add_sub_cancel' h];exact h2
  · rw[Nat.sub_eq_zero_of_le h];exact h1
theorem zf{a b:Nat}(h:b≤a):a=a-b+b:=(Nat.sub_add_cancel h).symm
theorem zg{a b c:Nat}(h:a<b+c)(h':0<c):a-b<c:=by
  rcases Nat.lt_or_ge a b with q|q
  · rw[Nat.sub_eq_zero_of_le (Nat.le_of_lt q)];exact h'
  · exact Nat.sub_lt_left_of_lt_add q h
theorem mw{a b c:Nat}(h:a<b+c)(h':b≤a):a-b<c:=Nat.sub_lt_left_of_lt_add h' h
theorem w6{a b:Nat}(h:b<a):a-b=a-(b+1)+1:=by rw[Nat.sub_add_eq,Nat.sub_add_cancel (Nat.sub_pos_of_lt h)]
end Mine.Internal
end
section
namespace Mine.Internal
open PySem
set_option genInjectivity true
inductive V where
  |none|bool (b:Bool)|int (i:Int)|str (s:String)
  |tup (l:List V)|lst (l:List V)|obj (c:String) (fs:List (String×V))
  deriving Inhabited
inductive M where
  |undef|v (x:V)|tup (l:List M)|lst (l:List V)|lstM (l:List M)
  |obj (c:String) (fs:List (String×M))|dct (fs:List (String×M))
  deriving Inhabited
set_option genInjectivity false
inductive Op where|add|sub|mul|fdiv|mod|pow
  deriving DecidableEq
inductive COp where|eq|ne|lt|le|gt|ge|is|isn
  deriving DecidableEq
inductive P where|var (i:Nat)|tup (l:List P)
mutual
inductive E where
  |none|bool (b:Bool)|int (i:Int)|str (s:String)
  |var (i:Nat)|mov (i:Nat)|glob (g:String)
  |attr (e:E) (a:String)|sub (e i:E)|slc (e:E) (lo hi:Option E)
  |bin (op:Op) (a b:E)|neg (a:E)|not (a:E)
  |cmp (op:COp) (a b:E)|cmp2 (o1 o2:COp) (a b c:E)
  |and (l:List E)|or (l:List E)|ite (c a b:E)|frz (e:E)
  |tup (l:List E)|lst (l:List E)|dct (l:List (String×E))
  |call (f:String) (l:List E)|bi (f:String) (l:List E)|meth (e:E) (c m k:String) (l:List E)|new (c k:String) (l:List E)
  |comp (elt:E) (p:P) (s:Src) (cond:Option E)
inductive Src where
  |rng (a:Option E) (b:E)|enum (e:E)|zip (a b:E)|it (e:E)
end
inductive T where
  |var (i:Nat) (keep:Bool)|tup (l:List T)|attr (o:E) (a:String)|sub (o i:E)
inductive S where
  |asg (t:T) (e:E)|expr (e:E)
  |app (p e:E) (keep:Bool)|ext (p e:E)|pop (p:E)
  |ite (c:E) (a b:List S)|whl (c:E) (b:List S)|for_ (p:P) (s:Src) (b:List S)
  |ret (e:Option E)|frz (p:E)
structure Fn where
  np:Nat
  io:List Bool
  vs:List String
  n1:Nat
  body:List S
mutual
noncomputable def V.pure:V→Bool
  |.tup l=>V.pures l
  |.lst _=>false
  |.obj _ _=>false
  |_=>true
noncomputable def V.pures:List V→Bool
  |[]=>true
  |x::r=>x.pure&&V.pures r
end
mutual
noncomputable def V.eq:V→V→Bool
  |.none,y=>(match y with|.none=>true|_=>false)
  |.bool a,y=>(match y with|.bool b=>a==b|.int b=>decide ((if a then 1 else 0)=b)|_=>false)
  |.int a,y=>(match y with|.int b=>decide (a=b)|.bool b=>decide (a=(if b then 1 else 0))|_=>false)
  |.str a,y=>(match y with|.str b=>decide (a=b)|_=>false)
  |.tup a,y=>(match y with|.tup b=>V.eqs a b|_=>false)
  |.lst a,y=>(match y with|.lst b=>V.eqs a b|_=>false)
  |.obj _ _,_=>false
noncomputable def V.eqs:List V→List V→Bool
  |[],l=>l.isEmpty
  |a::r,l=>(match l with|b::q=>V.eq a b&&V.eqs r q|[]=>false)
end
mutual
noncomputable def V.plain:V→Nat→Bool
  |.tup l,n+1=>V.plains l n
  |.lst l,n+1=>V.plains l n
  |.tup _,0=>false
  |.lst _,0=>false
  |.obj _ _,_=>false
  |.none,_=>true
  |.bool _,_=>true
  |.int _,_=>true
  |.str _,_=>true
noncomputable def V.plains:List V→Nat→Bool
  |[],_=>true
  |x::r,n=>x.plain n&&V.plains r n
end
mutual
noncomputable def M.toV:M→Option V
  |.undef=>Option.none
  |.v x=>some x
  |.tup l=>(M.toVs l).map V.tup
  |.lst l=>some (.lst l)
  |.lstM l=>(M.toVs l).map V.lst
  |.obj c fs=>(M.toVf fs).map (V.obj c)
  |.dct _=>Option.none
noncomputable def M.toVs:List M→Option (List V)
  |[]=>some []
  |x::r=>(M.toV x).bind fun a=>(M.toVs r).map fun b=>a::b
noncomputable def M.toVf:List (String×M)→Option (List (String×V))
  |[]=>some []
  |(n,x)::r=>(M.toV x).bind fun a=>(M.toVf r).map fun b=>(n,a)::b
end
mutual
noncomputable def M.indep:M→Bool
  |.undef=>true
  |.v x=>x.pure
  |.tup l=>M.indeps l
  |.lst l=>V.pures l
  |.lstM l=>M.indeps l
  |.obj _ fs=>M.indepf fs
  |.dct fs=>M.indepf fs
noncomputable def M.indeps:List M→Bool
  |[]=>true
  |x::r=>x.indep&&M.indeps r
noncomputable def M.indepf:List (String×M)→Bool
  |[]=>true
  |(_,x)::r=>x.indep&&M.indepf r
end
noncomputable def M.def?:M→Option M
  |.undef=>Option.none
  |m=>some m
noncomputable def M.isV:M→Bool
  |.v _=>true
  |_=>false
noncomputable def a5:List M→Option (List V)
  |[]=>some []
  |.v x::r=>(a5 r).map (x:: ·)
  |_=>Option.none
noncomputable def bF(l:List M):M:=match a5 l with
  |some vs=>.lst vs
  |Option.none=>.lstM l
noncomputable def jG(l:List M):M:=match a5 l with
  |some vs=>.v (.tup vs)
  |Option.none=>.tup l
noncomputable def M.seq?:M→Option (List M)
  |.v (.tup l)=>some (l.map .v)
  |.v (.lst l)=>some (l.map .v)
  |.tup l=>some l
  |.lst l=>some (l.map .v)
  |.lstM l=>some l
  |_=>Option.none
noncomputable def M.unp?:M→Option (List M)
  |.v (.tup l)=>some (l.map .v)
  |.v (.lst l)=>some (l.map .v)
  |.tup l=>some l
  |_=>Option.none
noncomputable def M.list?:M→Option (List V)
  |.v (.lst l)=>some l
  |.lst l=>some l
  |.lstM l=>a5 l
  |_=>Option.none
noncomputable def M.fields?:M→Option (String×List (String×M))
  |.v (.obj c fs)=>some (c,fs.map fun p=>(p.1,.v p.2))
  |.obj c fs=>some (c,fs)
  |_=>Option.none
noncomputable def big:Nat:=1048576
noncomputable def bG(l:List V):Option (List V):=if l.length≤big then some l else Option.none
noncomputable def ix(k:Int)(n:Nat):Option Nat:=if 0≤k then(if k<n then some k.toNat else Option.none)else if 0≤k+n then some (k+n).toNat else Option.none
noncomputable def ec(k:Int)(n:Nat):Nat:=if 0≤k then min k.toNat n else(k+n).toNat
noncomputable def cT:Option Int→Nat→Nat
  |some a,n=>ec a n
  |Option.none,_=>0
noncomputable def cU:Option Int→Nat→Nat
  |some a,n=>ec a n
  |Option.none,n=>n
noncomputable def cut{α}(l:List α)(lo hi:Nat):List α:=(l.take hi).drop lo
noncomputable def item(o k:M):Option M:=match k with
  |.v (.int i)=>o.seq?.bind fun l=>(ix i l.length).bind fun j=>l[j]?
  |.v (.str s)=>(match o with|.dct fs=>fs.lookup s|_=>Option.none)
  |_=>Option.none
noncomputable def M.int?:M→Option Int
  |.v (.int b)=>some b
  |_=>Option.none
noncomputable def M.bool?:M→Option Bool
  |.v (.bool b)=>some b
  |_=>Option.none
noncomputable def jH(f:Int→Int→Option M)(a b:M):Option M:=a.int?.bind fun x=>b.int?.bind fun y=>f x y
noncomputable def t8(a b:M):Option M:=match a.int? with
  |some x=>b.int?.map fun y=>.v (.int (x+y))
  |Option.none=>a.list?.bind fun x=>b.list?.bind fun y=>(bG (x++y)).map .lst
noncomputable def C2(a b:M):Option M:=b.int?.bind fun y=>match a with
  |.lst l=>if l.length*y.toNat≤big∧y.natAbs<2 ^ 40 then some (.lst (List.replicate y.toNat l).flatten)else Option.none
  |a=>a.int?.bind fun x=>if x.natAbs<2 ^ 40∧y.natAbs<2 ^ 40 then some (.v (.int (x*y)))else Option.none
noncomputable def a9(op:Op):M→M→Option M:=match op with
  |.add=>t8
  |.sub=>jH fun a b=>some (.v (.int (a-b)))
  |.mul=>C2
  |.fdiv=>jH fun a b=>if b≠0∧b.natAbs<1000000000 then some (.v (.int (a.fdiv b)))else Option.none
  |.mod=>jH fun a b=>if b=0 then Option.none else some (.v (.int (a.fmod b)))
  |.pow=>jH fun a b=>if a=10∧b=9 then some (.v (.int 1000000000))else Option.none
noncomputable def t9(f:Int→Int→Bool)(a b:M):Option Bool:=a.int?.bind fun x=>b.int?.map fun y=>f x y
noncomputable def eqM(g:Bool→Bool)(a b:M):Option Bool:=a.toV.bind fun x=>b.toV.bind fun y=>if x.plain 16&&y.plain 16 then some (g (x.eq y))else Option.none
noncomputable def V.isNone:V→Bool
  |.none=>true
  |_=>false
noncomputable def M.v?:M→Option V
  |.v x=>some x
  |_=>Option.none
noncomputable def isN(g:Bool→Bool)(a b:M):Option Bool:=a.v?.bind fun x=>b.v?.bind fun y=>if y.isNone then some (g x.isNone)else Option.none
noncomputable def bn(op:COp):M→M→Option Bool:=match op with
  |.lt=>t9 fun a b=>decide (a<b)
  |.le=>t9 fun a b=>decide (a≤b)
  |.gt=>t9 fun a b=>decide (b<a)
  |.ge=>t9 fun a b=>decide (b≤a)
  |.eq=>eqM id
  |.ne=>eqM (!·)
  |.is=>isN id
  |.isn=>isN (!·)
noncomputable def lf{α:Type}(l:List M)(f:M→Option α):Option α:=match l with
  |[a]=>f a
  |_=>Option.none
noncomputable def sy{α:Type}(l:List M)(f:M→M→Option α):Option α:=match l with
  |[a,b]=>f a b
  |_=>Option.none
noncomputable def cu(f:String)(l:List M):Option M:=
  if f="len" then lf l fun a=>a.seq?.map fun l=>.v (.int l.length)else
  if f="max" then sy l (jH fun a b=>some (.v (.int (if a<b then b else a))))else
  if f="min" then sy l (jH fun a b=>some (.v (.int (if b<a then b else a))))else
  if f="int" then lf l fun a=>(match a.int? with|some i=>some (.v (.int i))|Option.none=>a.bool?.map fun b=>.v (.int (if b then 1 else 0)))else
  if f="list" then lf l fun a=>a.list?.map .lst else Option.none
noncomputable def V.unp?:V→Option (List V)
  |.tup l=>some l
  |.lst l=>some l
  |_=>Option.none
mutual
noncomputable def ey:P→V→List M→Option (List M)
  |.var i,x,σ=>if i<σ.length then some (σ.set i (.v x))else Option.none
  |.tup l,x,σ=>x.unp?.bind fun xs=>f9 l xs σ
noncomputable def f9:List P→List V→List M→Option (List M)
  |[],[],σ=>some σ
  |p::r,x::xs,σ=>(ey p x σ).bind fun σ=>f9 r xs σ
  |_,_,_=>Option.none
end
noncomputable def iY(p:P)(m:M)(σ:List M):Option (List M):=match m with
  |.v x=>ey p x σ
  |m=>(match p with|.var i=>if i<σ.length then m.def?.map fun m=>σ.set i m else Option.none|.tup _=>Option.none)
mutual
noncomputable def jk:P→List M→List M
  |.var i,σ=>σ.set i .undef
  |.tup l,σ=>qJ l σ
noncomputable def qJ:List P→List M→List M
  |[],σ=>σ
  |p::r,σ=>qJ r (jk p σ)
end
mutual
noncomputable def gD:P→List M→Bool
  |.var i,σ=>(match σ[i]? with|some .undef=>true|_=>false)
  |.tup l,σ=>t_ l σ
noncomputable def t_:List P→List M→Bool
  |[],_=>true
  |p::r,σ=>gD p σ&&t_ r σ
end
mutual
noncomputable def E.calm(io:String→List Bool):E→Bool
  |.mov _=>false
  |.attr e _=>e.calm io
  |.sub e i=>e.calm io&&i.calm io
  |.slc e lo hi=>e.calm io&&E.calmO io lo&&E.calmO io hi
  |.bin _ a b=>a.calm io&&b.calm io
  |.neg a=>a.calm io
  |.not a=>a.calm io
  |.cmp _ a b=>a.calm io&&b.calm io
  |.cmp2 _ _ a b c=>a.calm io&&b.calm io&&c.calm io
  |.and l=>E.calms io l
  |.or l=>E.calms io l
  |.ite c a b=>c.calm io&&a.calm io&&b.calm io
  |.frz e=>e.calm io
  |.tup l=>E.calms io l
  |.lst l=>E.calms io l
  |.dct l=>E.calmf io l
  |.call f l=>!(io f).any id&&E.calms io l
  |.bi _ l=>E.calms io l
  |.meth e _ _ k l=>!(io k).any id&&e.calm io&&E.calms io l
  |.new _ _ l=>E.calms io l
  |.comp e _ s c=>e.calm io&&Src.calm io s&&E.calmO io c
  |.none=>true
  |.bool _=>true
  |.int _=>true
  |.str _=>true
  |.var _=>true
  |.glob _=>true
noncomputable def E.calmO(io:String→List Bool):Option E→Bool
  |Option.none=>true
  |some e=>e.calm io
noncomputable def E.calms(io:String→List Bool):List E→Bool
  |[]=>true
  |e::r=>e.calm io&&E.calms io r
noncomputable def E.calmf(io:String→List Bool):List (String×E)→Bool
  |[]=>true
  |(_,e)::r=>e.calm io&&E.calmf io r
noncomputable def Src.calm(io:String→List Bool):Src→Bool
  |.rng a b=>E.calmO io a&&b.calm io
  |.enum e=>e.calm io
  |.zip a b=>a.calm io&&b.calm io
  |.it e=>e.calm io
end
noncomputable def E.temp:E→Bool
  |.var _=>false
  |.attr _ _=>false
  |.sub _ _=>false
  |.ite _ a b=>a.temp&&b.temp
  |_=>true
noncomputable def M.lend(m:M):Option M:=m.toV.map .v
noncomputable def E.var?:E→Option Nat
  |.var i=>some i
  |_=>Option.none
noncomputable def cv:List Bool→List E→List M→List M→Option (List M)
  |[],es,_,σ=>(match es with|[]=>some σ|_::_=>Option.none)
  |b::r,es,ms,σ=>(match es with
    |[]=>Option.none
    |e::es=>(match ms with
      |[]=>Option.none
      |m::ms=>if b then e.var?.bind fun i=>if i<σ.length then cv r es ms (σ.set i m)else Option.none else cv r es ms σ))
noncomputable def fE:List Bool→List M→Option (List M)
  |[],ms=>(match ms with|[]=>some []|_::_=>Option.none)
  |b::r,ms=>(match ms with
    |[]=>Option.none
    |m::ms=>if b then(fE r ms).map (m:: ·)else m.lend.bind fun a=>(fE r ms).map (a:: ·))
noncomputable def lg:List Bool→List E→List M→Bool
  |[],_,_=>false
  |b::r,es,ms=>(match es with
    |[]=>false
    |e::es=>(match ms with
      |[]=>false
      |m::ms=>!b&&(!e.temp&&!m.isV)||lg r es ms))
noncomputable def ee:List Bool→List E→List Nat
  |[],_=>[]
  |b::r,es=>(match es with
    |[]=>[]
    |e::es=>if b then(match e.var? with|some i=>i::ee r es|Option.none=>ee r es)else ee r es)
noncomputable def cV:List Nat→Bool
  |[]=>true
  |i::r=>!r.contains i&&cV r
noncomputable def mx:List Bool→Bool
  |true::r=>r.all (!·)
  |_=>false
noncomputable abbrev Phi:=String→List M→Option (M×List M)
structure Tab where
  io:String→List Bool
  prop:String→String→Option String
  glob:String→Option V
noncomputable def apply(Φ:Phi)(k:String)(io:List Bool)(es:List E)(ms:List M)(σ:List M):Option (M×List M):=
  if cV (ee io es)then(fE io ms).bind fun as=>(Φ k as).bind fun(r,outs)=>if lg io es ms&&!(r.indep&&io.all (!·))then Option.none else(cv io es outs σ).map fun σ'=>(r,σ')else Option.none
noncomputable def ofB(b:Bool):M:=.v (.bool b)
noncomputable def ac(f:V→List M→Option (Option M×List M)):List V→List M→Option (List M×List M)
  |[],σ=>some ([],σ)
  |x::r,σ=>(f x σ).bind fun(y,σ)=>(ac f r σ).map fun(ys,σ)=>((match y with|some y=>y::ys|Option.none=>ys),σ)
noncomputable def bt(a b:Int):List V:=(List.range (b-a).toNat).map fun(k:Nat)=>V.int (a+k)
noncomputable def bS(n:Nat):List V→List V
  |[]=>[]
  |x::r=>.tup [.int n,x]::bS (n+1) r
noncomputable def iz:List V→List V→List V
  |x::r,y::q=>.tup [x,y]::iz r q
  |_,_=>[]
mutual
noncomputable def ev(G:Tab)(Φ:Phi):E→List M→Option (M×List M)
  |.none,σ=>some (.v .none,σ)
  |.bool b,σ=>some (.v (.bool b),σ)
  |.int i,σ=>some (.v (.int i),σ)
  |.str s,σ=>some (.v (.str s),σ)
  |.var i,σ=>(match σ[i]? with|some .undef=>Option.none|some m=>some (m,σ)|Option.none=>Option.none)
  |.mov i,σ=>(match σ[i]? with|some .undef=>Option.none|some m=>some (m,σ.set i .undef)|Option.none=>Option.none)
  |.glob g,σ=>(G.glob g).map fun x=>(.v x,σ)
  |.attr e a,σ=>(ev G Φ e σ).bind fun(m,σ)=>m.fields?.bind fun(c,fs)=>match G.prop c a with
      |some k=>if e.calm G.io then(apply Φ k [false] [e] [m] σ).bind fun(x,σ)=>x.def?.map fun x=>(x,σ)else Option.none
      |Option.none=>(fs.lookup a).bind fun x=>x.def?.map fun x=>(x,σ)
  |.sub e i,σ=>if i.calm G.io then(ev G Φ e σ).bind fun(m,σ)=>(ev G Φ i σ).bind fun(k,σ)=>(item m k).map fun x=>(x,σ)
      else(ev G Φ e σ).bind fun(m,σ)=>if m.isV then(ev G Φ i σ).bind fun(k,σ)=>(item m k).map fun x=>(x,σ)else Option.none
  |.slc e lo hi,σ=>if E.calmO G.io lo&&E.calmO G.io hi then(ev G Φ e σ).bind fun(m,σ)=>m.list?.bind fun l=>(evO G Φ lo σ).bind fun(a,σ)=>(evO G Φ hi σ).map fun(b,σ)=>
      (.lst (cut l (cT a l.length) (cU b l.length)),σ)else Option.none
  |.bin op a b,σ=>(ev G Φ a σ).bind fun(x,σ)=>if x.isV||b.calm G.io then(ev G Φ b σ).bind fun(y,σ)=>(a9 op x y).map fun z=>(z,σ)else Option.none
  |.neg a,σ=>(ev G Φ a σ).bind fun(x,σ)=>x.int?.map fun i=>(.v (.int (-i)),σ)
  |.not a,σ=>(ev G Φ a σ).bind fun(x,σ)=>x.bool?.map fun b=>(ofB (!b),σ)
  |.cmp op a b,σ=>(ev G Φ a σ).bind fun(x,σ)=>if x.isV||b.calm G.io then(ev G Φ b σ).bind fun(y,σ)=>(bn op x y).map fun z=>(ofB z,σ)else Option.none
  |.cmp2 o1 o2 a b c,σ=>if b.calm G.io&&c.calm G.io then(ev G Φ a σ).bind fun(x,σ)=>(ev G Φ b σ).bind fun(y,σ)=>(bn o1 x y).bind fun z=>if z then(ev G Φ c σ).bind fun(u,σ)=>(bn o2 y u).map fun z=>(ofB z,σ)else some (ofB false,σ)else Option.none
  |.and l,σ=>qK G Φ l σ
  |.or l,σ=>w7 G Φ l σ
  |.ite c a b,σ=>(ev G Φ c σ).bind fun(x,σ)=>x.bool?.bind fun z=>if z then ev G Φ a σ else ev G Φ b σ
  |.frz e,σ=>(ev G Φ e σ).bind fun(m,σ)=>if e.temp||m.isV then m.toV.map fun x=>(.v x,σ)else Option.none
  |.tup l,σ=>(evL G Φ l σ).map fun(ms,σ)=>(jG ms,σ)
  |.lst l,σ=>(evL G Φ l σ).map fun(ms,σ)=>(bF ms,σ)
  |.dct l,σ=>(evF G Φ l σ).map fun(fs,σ)=>(.dct fs,σ)
  |.call f l,σ=>if E.calms G.io l then(evA G Φ l σ).bind fun(ms,σ)=>apply Φ f (G.io f) l ms σ else Option.none
  |.bi f l,σ=>if E.calms G.io l then(evA G Φ l σ).bind fun(ms,σ)=>(cu f ms).map fun m=>(m,σ)else Option.none
  |.meth e c m k l,σ=>if E.calms G.io (e::l)then(ev G Φ e σ).bind fun(o,σ)=>(evA G Φ l σ).bind fun(ms,σ)=>o.fields?.bind fun(c',fs)=>if c'=c then match fs.lookup m with
      |some _=>Option.none
      |Option.none=>apply Φ k (G.io k) (e::l) (o::ms) σ
      else Option.none
      else Option.none
  |.new c k l,σ=>if E.calms G.io l then(evA G Φ l σ).bind fun(ms,σ)=>if ms.all M.isV&&mx (G.io k)then(Φ k (.obj c []::ms)).bind fun(r,outs)=>
      match r,outs with
      |.v .none,o::_=>some (o,σ)
      |_,_=>Option.none
      else Option.none
      else Option.none
  |.comp elt p s cond,σ=>if !gD p σ then Option.none else(evS G Φ (!(elt.calm G.io&&E.calmO G.io cond)) s σ).bind fun(xs,σ)=>(a5 xs).bind fun xs=>
      (ac (fun x σ=>(ey p x σ).bind fun σ=>(evC G Φ cond σ).bind fun(z,σ)=>if z then(ev G Φ elt σ).bind fun(y,σ)=>if elt.temp||y.isV then some (some y,jk p σ)else Option.none else some (Option.none,jk p σ)) xs σ).bind fun(ys,σ)=>if ys.length≤big then some (bF ys,σ)else Option.none
noncomputable def evO(G:Tab)(Φ:Phi):Option E→List M→Option (Option Int×List M)
  |Option.none,σ=>some (Option.none,σ)
  |some e,σ=>(ev G Φ e σ).bind fun(m,σ)=>m.int?.map fun i=>(some i,σ)
noncomputable def evC(G:Tab)(Φ:Phi):Option E→List M→Option (Bool×List M)
  |Option.none,σ=>some (true,σ)
  |some e,σ=>(ev G Φ e σ).bind fun(m,σ)=>m.bool?.map fun i=>(i,σ)
noncomputable def qK(G:Tab)(Φ:Phi):List E→List M→Option (M×List M)
  |[],_=>Option.none
  |e::r,σ=>(ev G Φ e σ).bind fun(m,σ)=>m.bool?.bind fun b=>match r with
    |[]=>some (m,σ)
    |_::_=>if b then qK G Φ r σ else some (m,σ)
noncomputable def w7(G:Tab)(Φ:Phi):List E→List M→Option (M×List M)
  |[],_=>Option.none
  |e::r,σ=>(ev G Φ e σ).bind fun(m,σ)=>m.bool?.bind fun b=>match r with
    |[]=>some (m,σ)
    |_::_=>if b then some (m,σ)else w7 G Φ r σ
noncomputable def evL(G:Tab)(Φ:Phi):List E→List M→Option (List M×List M)
  |[],σ=>some ([],σ)
  |e::r,σ=>(ev G Φ e σ).bind fun(m,σ)=>if e.temp||m.isV then(evL G Φ r σ).map fun(ms,σ)=>(m::ms,σ)else Option.none
noncomputable def evF(G:Tab)(Φ:Phi):List (String×E)→List M→Option (List (String×M)×List M)
  |[],σ=>some ([],σ)
  |(n,e)::r,σ=>(ev G Φ e σ).bind fun(m,σ)=>if e.temp||m.isV then(evF G Φ r σ).map fun(ms,σ)=>((n,m)::ms,σ)else Option.none
noncomputable def evA(G:Tab)(Φ:Phi):List E→List M→Option (List M×List M)
  |[],σ=>some ([],σ)
  |e::r,σ=>(ev G Φ e σ).bind fun(m,σ)=>(evA G Φ r σ).map fun(ms,σ)=>(m::ms,σ)
noncomputable def evS(G:Tab)(Φ:Phi)(steady:Bool):Src→List M→Option (List M×List M)
  |.rng a b,σ=>(evO G Φ a σ).bind fun(x,σ)=>(ev G Φ b σ).bind fun(m,σ)=>m.int?.bind fun y=>if(y-x.getD 0).toNat≤big∧(x.getD 0).natAbs≤1099511627776∧y.natAbs≤1099511627776 then some ((bt (x.getD 0) y).map .v,σ)else Option.none
  |.enum e,σ=>(ev G Φ e σ).bind fun(m,σ)=>if !steady||e.temp||m.isV then m.list?.map fun l=>((bS 0 l).map .v,σ)else Option.none
  |.zip a b,σ=>if b.calm G.io then(ev G Φ a σ).bind fun(m,σ)=>m.list?.bind fun x=>(ev G Φ b σ).bind fun(n,σ)=>if !steady||(a.temp||m.isV)&&(b.temp||n.isV)then n.list?.map fun y=>((iz x y).map .v,σ)else Option.none else Option.none
  |.it e,σ=>(ev G Φ e σ).bind fun(m,σ)=>match m with
    |.lstM l=>if e.temp then some (l,σ)else Option.none
    |m=>if !steady||e.temp||m.isV then m.list?.map fun l=>(l.map .v,σ)else Option.none
end
inductive Fl where|next|ret (m:M)
noncomputable def jm(fs:List (String×M))(a:String)(m:M):List (String×M):=match fs with
  |[]=>[(a,m)]
  |(n,x)::r=>if n=a then(n,m)::r else(n,x)::jm r a m
noncomputable def gE(a:String)(f:M→Option M):List (String×M)→Option (List (String×M))
  |[]=>Option.none
  |(n,x)::r=>if n=a then(f x).map fun y=>(n,y)::r else(gE a f r).map fun q=>(n,x)::q
noncomputable def f_(G:Tab)(a:String)(f:M→Option M):M→Option M
  |.obj c fs=>(match G.prop c a with|Option.none=>(gE a f fs).map (M.obj c)|some _=>Option.none)
  |_=>Option.none
noncomputable def dv(k:M)(f:M→Option M):M→Option M
  |.dct fs=>(match k with|.v (.str s)=>(gE s f fs).map M.dct|_=>Option.none)
  |.lstM l=>(match k with|.v (.int j)=>(ix j l.length).bind fun j=>(l[j]?).bind fun x=>(f x).map fun y=>.lstM (l.set j y)|_=>Option.none)
  |_=>Option.none
noncomputable def my(G:Tab)(a:String)(m:M):M→Option M
  |.obj c fs=>(match G.prop c a with|Option.none=>if fs.length≤900 then some (.obj c (jm fs a m))else Option.none|some _=>Option.none)
  |_=>Option.none
noncomputable def bD(G:Tab)(Φ:Phi):E→(M→Option M)→List M→Option (List M)
  |.var i,f,σ=>(match σ[i]? with|some .undef=>Option.none|some m=>(f m).map fun m'=>σ.set i m'|Option.none=>Option.none)
  |.attr p a,f,σ=>bD G Φ p (f_ G a f) σ
  |.sub p i,f,σ=>if i.calm G.io then(ev G Φ i σ).bind fun(k,_)=>bD G Φ p (dv k f) σ else Option.none
  |_,_,_=>Option.none
noncomputable def E.isVar:E→Bool
  |.var _=>true
  |_=>false
noncomputable def dG(m:M):Option M:=m.toV.map .v
noncomputable def ga(e:E)(m:M):Bool:=e.temp||m.isV
noncomputable def nK:M→Option M
  |.lst l=>some (.lst l)
  |.lstM l=>some (.lstM l)
  |_=>Option.none
noncomputable def jI(m:M):M→Option M
  |.lst l=>m.toV.bind fun x=>(bG (l++[x])).map .lst
  |_=>Option.none
noncomputable def fF(m:M):M→Option M
  |.lst l=>if l.length<big then some (.lstM (l.map .v++[m]))else Option.none
  |.lstM l=>if l.length<big then some (.lstM (l++[m]))else Option.none
  |_=>Option.none
noncomputable def pA(m:M):M→Option M
  |.lst l=>m.list?.bind fun x=>(bG (l++x)).map .lst
  |_=>Option.none
noncomputable def sA:M→Option M
  |.lst l=>if l.isEmpty then Option.none else some (.lst l.dropLast)
  |_=>Option.none
noncomputable def lh(k m:M):M→Option M
  |.lst l=>(match k with|.v (.int j)=>(ix j l.length).bind fun j=>m.toV.map fun x=>.lst (l.set j x)|_=>Option.none)
  |.dct fs=>(match k with|.v (.str s)=>if fs.length≤big then some (.dct (jm fs s m))else Option.none|_=>Option.none)
  |_=>Option.none
mutual
noncomputable def store(G:Tab)(Φ:Phi):T→M→List M→Option (List M)
  |.var i keep,m,σ=>if i<σ.length then(if keep then some (σ.set i m)else(dG m).map fun m=>σ.set i m)else Option.none
  |.tup l,m,σ=>m.unp?.bind fun ms=>stores G Φ l ms σ
  |.attr o a,m,σ=>bD G Φ o (my G a m) σ
  |.sub o i,m,σ=>if i.calm G.io then(ev G Φ i σ).bind fun(k,_)=>bD G Φ o (lh k m) σ else Option.none
noncomputable def stores(G:Tab)(Φ:Phi):List T→List M→List M→Option (List M)
  |[],[],σ=>some σ
  |t::r,m::ms,σ=>(store G Φ t m σ).bind fun σ=>stores G Φ r ms σ
  |_,_,_=>Option.none
end
noncomputable def iterN{α β:Type}(f:α→Option (α ⊕ β)):Nat→α→Option β
  |0,_=>Option.none
  |n+1,a=>(f a).bind fun x=>match x with
    |.inl a=>iterN f n a
    |.inr b=>some b
noncomputable def iter{α β:Type}(f:α→Option (α ⊕ β))(a:α):Option β:=iterN f big a
noncomputable def cw(f:M→List M→Option (Fl×List M)):List M→List M→Option (Fl×List M)
  |[],σ=>some (.next,σ)
  |x::r,σ=>(f x σ).bind fun(fl,σ)=>match fl with
    |.next=>cw f r σ
    |.ret m=>some (.ret m,σ)
mutual
noncomputable def ex(G:Tab)(Φ:Phi):S→List M→Option (Fl×List M)
  |.asg t e,σ=>(ev G Φ e σ).bind fun(m,σ)=>if ga e m then(store G Φ t m σ).map fun σ=>(.next,σ)else Option.none
  |.expr e,σ=>(ev G Φ e σ).map fun(_,σ)=>(.next,σ)
  |.app p e keep,σ=>(ev G Φ e σ).bind fun(m,σ₁)=>if ga e m then(if e.calm G.io then(bD G Φ p (if keep then fF m else jI m) σ).map fun σ=>(.next,σ)else if p.isVar&&(bD G Φ p nK σ).isSome then(bD G Φ p (if keep then fF m else jI m) σ₁).map fun σ=>(.next,σ)else Option.none)else Option.none
  |.ext p e,σ=>if e.calm G.io then(ev G Φ e σ).bind fun(m,_)=>(bD G Φ p (pA m) σ).map fun σ=>(.next,σ)else Option.none
  |.pop p,σ=>(bD G Φ p sA σ).map fun σ=>(.next,σ)
  |.ite c a b,σ=>(ev G Φ c σ).bind fun(m,σ)=>m.bool?.bind fun z=>if z then exs G Φ a σ else exs G Φ b σ
  |.whl c b,σ=>iter (fun σ=>(ev G Φ c σ).bind fun(m,σ)=>m.bool?.bind fun z=>if z then(exs G Φ b σ).map fun(fl,σ)=>(match fl with|.next=>.inl σ|.ret m=>.inr (.ret m,σ))else some (.inr (.next,σ))) σ
  |.for_ p s b,σ=>(evS G Φ true s σ).bind fun(xs,σ)=>cw (fun x σ=>(iY p x σ).bind fun σ=>exs G Φ b σ) xs σ
  |.ret e,σ=>(match e with
    |Option.none=>some (.ret (.v .none),σ)
    |some e=>(ev G Φ e σ).bind fun(m,σ)=>if ga e m then some (.ret m,σ)else Option.none)
  |.frz p,σ=>(bD G Φ p dG σ).map fun σ=>(.next,σ)
noncomputable def exs(G:Tab)(Φ:Phi):List S→List M→Option (Fl×List M)
  |[],σ=>some (.next,σ)
  |s::r,σ=>(ex G Φ s σ).bind fun(fl,σ)=>match fl with
    |.next=>exs G Φ r σ
    |.ret m=>some (.ret m,σ)
end
noncomputable def nL(G:Tab)(Φ:Phi)(f:Fn)(as:List M):Option (M×List M):=
  if as.length=f.np then(exs G Φ f.body (as++List.replicate (f.vs.length-f.np) .undef)).map fun(fl,σ)=>((match fl with|.next=>.v .none|.ret m=>m),σ.take f.np)else Option.none
noncomputable def phi(G:Tab)(tab:String→Option Fn):Nat→Phi
  |0=>fun _ _=>Option.none
  |d+1=>fun k as=>(tab k).bind fun f=>nL G (phi G tab d) f as
noncomputable def bu(G:Tab)(Φ:Phi)(elt:E)(p:P)(cond:Option E)(x:V)(σ:List M):Option (Option M×List M):=
  (ey p x σ).bind fun σ=>(evC G Φ cond σ).bind fun(z,σ)=>if z then(ev G Φ elt σ).bind fun(y,σ)=>if elt.temp||y.isV then some (some y,jk p σ)else none else some (none,jk p σ)
section
variable {G:Tab} {Φ:Phi} {α:Type} {a b x:V} {l m r q:List V} {n:Nat}
theorem qL(i j:Int):V.eq (.int i) (.int j)=decide (i=j):=rfl
theorem qM(i j:Bool):V.eq (.bool i) (.bool j)=(i==j):=rfl
theorem qN(i j:String):V.eq (.str i) (.str j)=decide (i=j):=rfl
theorem qO:V.eq (.tup l) (.tup m)=V.eqs l m:=rfl
theorem qP:V.eq (.lst l) (.lst m)=V.eqs l m:=rfl
theorem gb:V.eqs [] l=l.isEmpty:=rfl
theorem gc:V.eqs (a::r) (b::q)=(V.eq a b&&V.eqs r q):=rfl
theorem gf:V.eqs (a::r) []=false:=rfl
theorem zh:(V.tup l).plain (n+1)=V.plains l n:=rfl
theorem zi:(V.lst l).plain (n+1)=V.plains l n:=rfl
theorem zj(i:Int):(V.int i).plain n=true:=by cases n<;>rfl
theorem zk(i:Bool):(V.bool i).plain n=true:=by cases n<;>rfl
theorem zl(i:String):(V.str i).plain n=true:=by cases n<;>rfl
theorem pB:V.plains [] n=true:=rfl
theorem pC:V.plains (x::r) n=(x.plain n&&V.plains r n):=rfl
theorem ua{f:V→List M→Option (Option M×List M)}{σ:List M}:ac f (x::r) σ=(f x σ).bind fun(y,σ)=>(ac f r σ).map fun(ys,σ)=>((match y with|some y=>y::ys|Option.none=>ys),σ):=rfl
theorem cM{f:M→List M→Option (Fl×List M)}{y:M}{ys σ:List M}:cw f (y::ys) σ=(f y σ).bind fun(fl,σ)=>match fl with|.next=>cw f ys σ|.ret m=>some (.ret m,σ):=rfl
theorem w8:bS n []=[]:=rfl
theorem mz:bS n (x::r)=.tup [.int n,x]::bS (n+1) r:=rfl
theorem pD:iz (x::r) (a::q)=.tup [x,a]::iz r q:=rfl
theorem Ad:V.pures (x::r)=(x.pure&&V.pures r):=rfl
theorem qQ{β:Type}(f:α→Option (α ⊕ β))(n:Nat)(a:α):iterN f (n+1) a=(f a).bind fun x=>match x with|.inl a=>iterN f n a|.inr b=>some b:=rfl
end
end Mine.Internal
end
section
namespace Mine.Internal
noncomputable def mB:List S:=[
  (.ret (some (.tup [(.int 0),(.glob "NO_COLOUR"),(.sub (.var 0) (.glob "BACK")),(.glob "NO_COLOUR"),(.int 0)])))]
noncomputable def mC:List String:=["pen"]
noncomputable def mD:List S:=[
  (.ret (some (.tup [(.tup []),(.int 1),(.call "erased_pen" [(.var 0)]),(.bool false)])))]
noncomputable def mE:List String:=["pen"]
noncomputable def jJ:List S:=[
  (.ret (some (.and [(.cmp .eq (.sub (.var 0) (.int 0)) (.tup [])),(.cmp .eq (.sub (.var 0) (.int 1)) (.int 1))])))]
noncomputable def jK:List String:=["cell"]
noncomputable def dH:List S:=[
  (.ret (some (.cmp .eq (.var 0) (.tup [(.tup []),(.int 1),(.glob "PLAIN"),(.bool false)]))))]
noncomputable def dI:List String:=["cell"]
noncomputable def fG:List S:=[
  (.ret (some (.bin .mul (.lst [(.call "blank_cell" [(.var 1)])]) (.bi "max" [(.int 0),(.var 0)]))))]
noncomputable def fH:List String:=["many","pen"]
noncomputable def mG:List S:=[
  (.ret (some (.tup [(.tup []),(.int 0),(.sub (.var 0) (.int 2)),(.sub (.var 0) (.int 3))])))]
noncomputable def mH:List String:=["cell"]
noncomputable def gF:List S:=[
  (.asg (.var 3 true) (.bi "list" [(.slc (.var 0) (some (.bi "max" [(.int 0),(.var 1)])) (some (.bi "max" [(.int 0),(.bin .add (.var 2) (.int 1))])))])),
  (.ite (.and [(.cmp .ne (.var 3) (.lst [])),(.cmp .eq (.sub (.sub (.var 3) (.int 0)) (.int 1)) (.int 0))]) [
    (.asg (.sub (.var 3) (.int 0)) (.call "blank_cell" [(.sub (.sub (.var 3) (.int 0)) (.int 2))]))] []),
  (.ite (.and [(.cmp .ne (.var 3) (.lst [])),(.cmp .eq (.sub (.sub (.var 3) (.neg (.int 1))) (.int 1)) (.int 2))]) [
    (.asg (.sub (.var 3) (.neg (.int 1))) (.call "blank_cell" [(.sub (.sub (.var 3) (.neg (.int 1))) (.int 2))]))] []),
  (.ret (some (.mov 3)))]
noncomputable def gG:List String:=["cells","left","right","found"]
noncomputable def iZ:List S:=[
  (.asg (.attr (.var 0) "cells") (.call "line_blanks" [(.var 1),(.var 2)])),
  (.asg (.attr (.var 0) "is_wrapped") (.bool false)),
  (.asg (.attr (.var 0) "size") (.sub (.glob "LINE_SIZES") (.int 0)))]
noncomputable def i0:List String:=["self","columns","pen"]
noncomputable def eA:List S:=[
  (.ret (some (.bi "len" [(.attr (.var 0) "cells")])))]
noncomputable def eB:List String:=["self"]
noncomputable def i4:List S:=[
  (.asg (.var 1 true) (.new "Line" "Line.__init__" [(.int 0),(.glob "PLAIN")])),
  (.asg (.attr (.var 1) "cells") (.bi "list" [(.attr (.var 0) "cells")])),
  (.asg (.attr (.var 1) "is_wrapped") (.attr (.var 0) "is_wrapped")),
  (.asg (.attr (.var 1) "size") (.attr (.var 0) "size")),
  (.ret (some (.mov 1)))]
noncomputable def i5:List String:=["self","found"]
noncomputable def eC:List S:=[
  (.asg (.var 3 true) (.meth (.var 0) "Line" "copy" "Line.copy" [])),
  (.ite (.cmp .lt (.var 1) (.bi "len" [(.attr (.var 3) "cells")])) [
    (.asg (.attr (.var 3) "cells") (.call "line_slice" [(.attr (.var 3) "cells"),(.int 0),(.bin .sub (.var 1) (.int 1))]))] []),
  (.asg (.attr (.var 3) "cells") (.bin .add (.attr (.var 3) "cells") (.call "line_blanks" [(.bin .sub (.var 1) (.bi "len" [(.attr (.var 3) "cells")])),(.var 2)]))),
  (.asg (.attr (.var 3) "is_wrapped") (.and [(.attr (.var 0) "is_wrapped"),(.cmp .eq (.var 1) (.bi "len" [(.attr (.var 0) "cells")]))])),
  (.ret (some (.mov 3)))]
noncomputable def eD:List String:=["self","columns","pen","found"]
noncomputable def lx:List S:=[
  (.asg (.var 3 true) (.new "Line" "Line.__init__" [(.int 0),(.glob "PLAIN")])),
  (.asg (.attr (.var 3) "cells") (.call "line_slice" [(.var 0),(.int 0),(.bin .sub (.bi "len" [(.var 0)]) (.int 1))])),
  (.asg (.attr (.var 3) "is_wrapped") (.var 1)),
  (.asg (.attr (.var 3) "size") (.var 2)),
  (.ret (some (.mov 3)))]
noncomputable def ly:List String:=["cells","is_wrapped","size","found"]
noncomputable def cW:List S:=[
  (.asg (.attr (.var 0) "first") (.var 1)),
  (.asg (.attr (.var 0) "size") (.var 2)),
  (.asg (.attr (.var 0) "begins") (.lst [])),
  (.asg (.attr (.var 0) "cells") (.lst [])),
  (.asg (.attr (.var 0) "is_whole") (.bool true))]
noncomputable def cX:List String:=["self","first","size"]
noncomputable def dk:List S:=[
  (.app (.attr (.var 0) "begins") (.bi "len" [(.attr (.var 0) "cells")]) false),
  (.ext (.attr (.var 0) "cells") (.var 1))]
noncomputable def dl:List String:=["self","cells"]
noncomputable def cb:List S:=[
  (.whl (.cmp .lt (.bi "len" [(.attr (.var 0) "cells")]) (.var 1)) [
    (.app (.attr (.var 0) "cells") (.call "blank_cell" [(.glob "PLAIN")]) false)])]
noncomputable def cc:List String:=["self","many"]
noncomputable def ce:List S:=[
  (.ret (some (.ite (.cmp .lt (.bin .add (.var 1) (.int 1)) (.bi "len" [(.attr (.var 0) "begins")])) (.bin .sub (.sub (.attr (.var 0) "begins") (.bin .add (.var 1) (.int 1))) (.sub (.attr (.var 0) "begins") (.var 1))) .none)))]
noncomputable def cf:List String:=["self","at"]
noncomputable def bO:List S:=[
  (.asg (.var 3 false) (.meth (.var 0) "LogicalLine" "size_of" "LogicalLine.size_of" [(.var 1)])),
  (.ite (.and [(.cmp .isn (.var 3) .none),(.cmp2 .ge .gt (.var 2) (.var 3) (.int 0))]) [
    (.ret (some (.tup [(.bin .sub (.bin .add (.sub (.attr (.var 0) "begins") (.var 1)) (.var 3)) (.int 1)),(.bool true)])))] []),
  (.ret (some (.tup [(.bin .add (.sub (.attr (.var 0) "begins") (.var 1)) (.var 2)),(.bool false)])))]
noncomputable def bP:List String:=["self","at","column","size"]
noncomputable def fI:List S:=[
  (.asg (.var 1 false) (.bi "len" [(.var 0)])),
  (.whl (.and [(.cmp .gt (.var 1) (.int 0)),(.call "is_plain_blank" [(.sub (.var 0) (.bin .sub (.var 1) (.int 1)))])]) [
    (.asg (.var 1 false) (.bin .sub (.var 1) (.int 1)))]),
  (.ret (some (.slc (.var 0) Option.none (some (.var 1)))))]
noncomputable def fJ:List String:=["cells","many"]
noncomputable def cx:List S:=[
  (.ret (some (.and [(.cmp .gt (.bi "len" [(.attr (.var 0) "cells")]) (.int 0)),(.cmp .eq (.sub (.sub (.attr (.var 0) "cells") (.int 0)) (.int 1)) (.int 2))])))]
noncomputable def cy:List String:=["line"]
noncomputable def fK:List S:=[
  (.asg (.var 2 false) (.attr (.sub (.var 0) (.var 1)) "cells")),
  (.ite (.not (.call "reflow_goes_on" [(.var 0),(.var 1)])) [
    (.ret (some (.call "reflow_used" [(.var 2)])))] []),
  (.ite (.and [(.call "is_blank" [(.sub (.var 2) (.neg (.int 1)))]),(.call "reflow_begins_wide" [(.sub (.var 0) (.bin .add (.var 1) (.int 1)))])]) [
    (.ret (some (.slc (.var 2) Option.none (some (.neg (.int 1))))))] []),
  (.ret (some (.mov 2)))]
noncomputable def fL:List String:=["lines","at","cells"]
noncomputable def dJ:List S:=[
  (.ite (.or [(.cmp .ge (.bin .add (.var 1) (.int 1)) (.bi "len" [(.var 0)])),(.not (.attr (.sub (.var 0) (.var 1)) "is_wrapped")),(.cmp .eq (.bi "len" [(.attr (.sub (.var 0) (.var 1)) "cells")]) (.int 0))]) [
    (.ret (some (.bool false)))] []),
  (.ret (some (.and [(.cmp .eq (.attr (.sub (.var 0) (.var 1)) "size") (.glob "SINGLE")),(.cmp .eq (.attr (.sub (.var 0) (.bin .add (.var 1) (.int 1))) "size") (.glob "SINGLE"))])))]
noncomputable def dK:List String:=["lines","at"]
noncomputable def gH:List S:=[
  (.asg (.tup [(.var 1 true),(.var 2 false)]) (.tup [(.lst []),(.int 0)])),
  (.whl (.cmp .lt (.var 2) (.bi "len" [(.var 0)])) [
    (.asg (.var 3 true) (.new "LogicalLine" "LogicalLine.__init__" [(.var 2),(.attr (.sub (.var 0) (.var 2)) "size")])),
    (.whl (.call "reflow_goes_on" [(.var 0),(.var 2)]) [
      (.expr (.meth (.var 3) "LogicalLine" "put" "LogicalLine.put" [(.call "reflow_part" [(.var 0),(.var 2)])])),
      (.asg (.var 2 false) (.bin .add (.var 2) (.int 1)))]),
    (.expr (.meth (.var 3) "LogicalLine" "put" "LogicalLine.put" [(.call "reflow_part" [(.var 0),(.var 2)])])),
    (.asg (.attr (.var 3) "is_whole") (.not (.attr (.sub (.var 0) (.var 2)) "is_wrapped"))),
    (.app (.var 1) (.mov 3) true),
    (.asg (.var 2 false) (.bin .add (.var 2) (.int 1)))]),
  (.ret (some (.mov 1)))]
noncomputable def gI:List String:=["lines","found","at","whole"]
noncomputable def bU:List S:=[
  (.asg (.tup [(.var 2 true),(.var 3 true),(.var 4 true),(.var 5 false)]) (.tup [(.lst []),(.lst []),(.lst []),(.int 0)])),
  (.whl (.cmp .lt (.var 5) (.bi "len" [(.var 0)])) [
    (.asg (.var 6 false) (.sub (.var 0) (.var 5))),
    (.asg (.var 7 false) (.ite (.and [(.cmp .eq (.sub (.var 6) (.int 1)) (.int 2)),(.cmp .lt (.bin .add (.var 5) (.int 1)) (.bi "len" [(.var 0)])),(.cmp .eq (.sub (.sub (.var 0) (.bin .add (.var 5) (.int 1))) (.int 1)) (.int 0))]) (.int 2) (.int 1))),
    (.asg (.var 8 false) (.slc (.var 0) (some (.var 5)) (some (.bin .add (.var 5) (.var 7))))),
    (.ite (.or [(.cmp .gt (.var 7) (.var 1)),(.and [(.cmp .eq (.var 7) (.int 1)),(.cmp .ne (.sub (.var 6) (.int 1)) (.int 1))])]) [
      (.asg (.var 8 false) (.lst [(.call "blank_cell" [(.sub (.var 6) (.int 2))])]))] []),
    (.ite (.cmp .gt (.bin .add (.bi "len" [(.var 3)]) (.bi "len" [(.var 8)])) (.var 1)) [
      (.ite (.cmp .lt (.bi "len" [(.var 3)]) (.var 1)) [
        (.app (.var 3) (.call "blank_cell" [(.glob "PLAIN")]) false)] []),
      (.app (.var 2) (.mov 3) true),
      (.asg (.var 3 true) (.lst []))] []),
    (.for_ (.var 9) (.rng Option.none (.var 7)) [
      (.app (.var 4) (.tup [(.bi "len" [(.var 2)]),(.bin .add (.bi "len" [(.var 3)]) (.bi "min" [(.var 9),(.bin .sub (.bi "len" [(.var 8)]) (.int 1))]))]) false)]),
    (.ext (.var 3) (.var 8)),
    (.asg (.var 5 false) (.bin .add (.var 5) (.var 7)))]),
  (.app (.var 2) (.mov 3) true),
  (.ret (some (.tup [(.mov 2),(.mov 4)])))]
noncomputable def dm:List String:=["cells","columns","pieces","piece","places","at","cell","many","part","step"]
noncomputable def eE:List S:=[
  (.ite (.cmp .lt (.var 2) (.bi "len" [(.var 1)])) [
    (.ret (some (.sub (.var 1) (.var 2))))] []),
  (.ret (some (.tup [(.bin .sub (.bi "len" [(.var 0)]) (.int 1)),(.bi "len" [(.sub (.var 0) (.neg (.int 1)))])])))]
noncomputable def eF:List String:=["pieces","places","offset"]
noncomputable def fM:List S:=[
  (.asg (.var 3 true) (.new "Line" "Line.__init__" [(.var 1),(.glob "PLAIN")])),
  (.for_ (.tup [(.var 4),(.var 5)]) (.enum (.var 0)) [
    (.asg (.sub (.attr (.var 3) "cells") (.var 4)) (.var 5))]),
  (.asg (.attr (.var 3) "is_wrapped") (.var 2)),
  (.ret (some (.mov 3)))]
noncomputable def fN:List String:=["piece","columns","is_wrapped","line","column","cell"]
noncomputable def eG:List S:=[
  (.asg (.attr (.var 0) "columns") (.var 2)),
  (.asg (.attr (.var 0) "lines") (.lst [])),
  (.asg (.attr (.var 0) "first") (.int 0)),
  (.asg (.attr (.var 0) "row") (.int 0)),
  (.asg (.attr (.var 0) "column") (.int 0)),
  (.asg (.attr (.var 0) "is_waiting") (.bool false)),
  (.asg (.attr (.var 0) "spots") (.lst [])),
  (.for_ (.var 5) (.it (.call "logical_of" [(.var 1)])) [
    (.expr (.meth (.var 0) "Cutting" "put" "Cutting.put" [(.var 5),(.var 1),(.var 3),(.var 4)]))])]
noncomputable def eH:List String:=["self","lines","columns","first","cursor","whole"]
noncomputable def a6:List S:=[
  (.asg (.tup [(.var 5 false),(.var 6 false)]) (.tup [(.bi "len" [(.attr (.var 0) "lines")]),(.bin .sub (.bin .add (.attr (.var 1) "first") (.bi "len" [(.attr (.var 1) "begins")])) (.int 1))])),
  (.ite (.cmp .ne (.attr (.var 1) "size") (.glob "SINGLE")) [
    (.app (.attr (.var 0) "lines") (.meth (.sub (.var 2) (.attr (.var 1) "first")) "Line" "resized" "Line.resized" [(.attr (.var 0) "columns"),(.glob "PLAIN")]) false),
    (.app (.attr (.var 0) "spots") (.tup [(.var 5),(.int 0),.none,.none,.none]) false),
    (.ite (.cmp .eq (.attr (.var 1) "first") (.var 3)) [
      (.asg (.attr (.var 0) "first") (.var 5))] []),
    (.ite (.cmp .eq (.attr (.var 1) "first") (.sub (.var 4) (.int 0))) [
      (.asg (.tup [(.attr (.var 0) "row"),(.attr (.var 0) "column")]) (.tup [(.var 5),(.bi "min" [(.sub (.var 4) (.int 1)),(.bin .sub (.attr (.var 0) "columns") (.int 1))])])),
      (.asg (.attr (.var 0) "is_waiting") (.and [(.sub (.var 4) (.int 2)),(.cmp .eq (.attr (.sub (.var 2) (.attr (.var 1) "first")) "columns") (.attr (.var 0) "columns"))]))] []),
    (.ret Option.none)] []),
  (.asg (.var 7 false) (.cmp2 .le .le (.attr (.var 1) "first") (.sub (.var 4) (.int 0)) (.var 6))),
  (.asg (.tup [(.var 8 false),(.var 9 false)]) (.ite (.var 7) (.meth (.var 1) "LogicalLine" "offset_of" "LogicalLine.offset_of" [(.bin .sub (.sub (.var 4) (.int 0)) (.attr (.var 1) "first")),(.sub (.var 4) (.int 1))]) (.tup [(.int 0),(.bool false)]))),
  (.asg (.tup [(.var 10 false),(.var 11 false)]) (.call "cut_with_places" [(.attr (.var 1) "cells"),(.attr (.var 0) "columns")])),
  (.asg (.var 12 false) (.and [(.var 7),(.not (.sub (.var 4) (.int 2))),(.cmp2 .lt .eq (.int 0) (.bi "len" [(.attr (.var 1) "cells")]) (.var 8)),(.cmp .eq (.bi "len" [(.sub (.var 10) (.neg (.int 1)))]) (.attr (.var 0) "columns"))])),
  (.ite (.and [(.var 7),(.not (.var 12))]) [
    (.expr (.meth (.var 1) "LogicalLine" "kept_to" "LogicalLine.kept_to" [(.bin .add (.var 8) (.int 1))])),
    (.asg (.tup [(.var 10 false),(.var 11 false)]) (.call "cut_with_places" [(.attr (.var 1) "cells"),(.attr (.var 0) "columns")]))] []),
  (.frz (.var 1)),
  (.for_ (.tup [(.var 13),(.var 14)]) (.enum (.attr (.var 1) "begins")) [
    (.app (.attr (.var 0) "spots") (.tup [(.var 5),(.var 14),(.meth (.var 1) "LogicalLine" "size_of" "LogicalLine.size_of" [(.var 13)]),(.var 10),(.var 11)]) false)]),
  (.for_ (.tup [(.var 15),(.var 16)]) (.enum (.var 10)) [
    (.asg (.var 17 false) (.or [(.cmp .lt (.bin .add (.var 15) (.int 1)) (.bi "len" [(.var 10)])),(.not (.attr (.var 1) "is_whole"))])),
    (.app (.attr (.var 0) "lines") (.call "reflow_line" [(.var 16),(.attr (.var 0) "columns"),(.var 17)]) false)]),
  (.ite (.cmp2 .le .le (.attr (.var 1) "first") (.var 3) (.var 6)) [
    (.asg (.var 18 false) (.call "reflow_place" [(.var 10),(.var 11),(.sub (.attr (.var 1) "begins") (.bin .sub (.var 3) (.attr (.var 1) "first")))])),
    (.asg (.attr (.var 0) "first") (.bin .add (.var 5) (.sub (.var 18) (.int 0))))] []),
  (.ite (.var 7) [
    (.asg (.var 18 false) (.call "reflow_place" [(.var 10),(.var 11),(.var 8)])),
    (.asg (.tup [(.attr (.var 0) "row"),(.attr (.var 0) "column")]) (.tup [(.bin .add (.var 5) (.sub (.var 18) (.int 0))),(.bi "min" [(.sub (.var 18) (.int 1)),(.bin .sub (.attr (.var 0) "columns") (.int 1))])])),
    (.ite (.var 12) [
      (.asg (.attr (.var 0) "is_waiting") (.bool true))] [
      (.ite (.var 9) [
        (.asg (.attr (.var 0) "column") (.bi "min" [(.bin .add (.attr (.var 0) "column") (.int 1)),(.bin .sub (.attr (.var 0) "columns") (.int 1))]))] [
        (.ite (.sub (.var 4) (.int 2)) [
          (.expr (.meth (.var 0) "Cutting" "go_behind" "Cutting.go_behind" []))] [])])])] [])]
noncomputable def fO:List String:=["self","whole","lines","first","cursor","begun","last","has_cursor","offset","is_free","pieces","places","is_behind","at","begin","number","piece","is_wrapped","place"]
noncomputable def cK:List S:=[
  (.ite (.cmp .lt (.bin .add (.attr (.var 0) "column") (.int 1)) (.attr (.var 0) "columns")) [
    (.asg (.attr (.var 0) "column") (.bin .add (.attr (.var 0) "column") (.int 1)))] [
    (.asg (.attr (.var 0) "is_waiting") (.bool true))])]
noncomputable def cL:List String:=["self"]
noncomputable def cY:List S:=[
  (.ite (.not (.cmp2 .le .lt (.int 0) (.var 1) (.bi "len" [(.attr (.var 0) "spots")]))) [
    (.ret (some .none))] []),
  (.asg (.tup [(.var 3 false),(.var 4 false),(.var 5 false),(.var 6 false),(.var 7 false)]) (.sub (.attr (.var 0) "spots") (.var 1))),
  (.ite (.cmp .is (.var 7) .none) [
    (.ret (some (.tup [(.mov 3),(.bi "min" [(.var 2),(.bin .sub (.attr (.var 0) "columns") (.int 1))])])))] []),
  (.asg (.var 8 false) (.call "reflow_place" [(.var 6),(.var 7),(.bin .add (.var 4) (.ite (.cmp .is (.var 5) .none) (.var 2) (.bi "min" [(.var 2),(.bi "max" [(.int 0),(.bin .sub (.var 5) (.int 1))])])))])),
  (.ret (some (.tup [(.bin .add (.var 3) (.sub (.var 8) (.int 0))),(.bi "min" [(.sub (.var 8) (.int 1)),(.bin .sub (.attr (.var 0) "columns") (.int 1))])])))]
noncomputable def cZ:List String:=["self","number","column","begun","begin","size","pieces","places","place"]
noncomputable def bV:List S:=[
  (.whl (.and [(.cmp .gt (.bin .sub (.bi "len" [(.attr (.var 0) "lines")]) (.attr (.var 0) "first")) (.var 1)),(.cmp .gt (.bin .sub (.bi "len" [(.attr (.var 0) "lines")]) (.int 1)) (.attr (.var 0) "row"))]) [
    (.asg (.var 2 false) (.sub (.attr (.var 0) "lines") (.neg (.int 1)))),
    (.ite (.or [(.attr (.var 2) "is_wrapped"),(.cmp .ne (.attr (.var 2) "size") (.glob "SINGLE")),(.cmp .ne (.call "reflow_used" [(.attr (.var 2) "cells")]) (.lst []))]) [
      (.ret Option.none)] []),
    (.pop (.attr (.var 0) "lines"))])]
noncomputable def dp:List String:=["self","rows","line"]
noncomputable def fP:List S:=[
  (.ite (.cmp .gt (.bin .sub (.bi "len" [(.attr (.var 0) "lines")]) (.attr (.var 0) "first")) (.var 1)) [
    (.ret (some (.bi "min" [(.bin .sub (.bi "len" [(.attr (.var 0) "lines")]) (.var 1)),(.attr (.var 0) "row")])))] []),
  (.ret (some (.bi "max" [(.int 0),(.bi "min" [(.attr (.var 0) "first"),(.bin .sub (.bi "len" [(.attr (.var 0) "lines")]) (.var 1))])])))]
noncomputable def fQ:List String:=["self","rows"]
noncomputable def jL:List S:=[
  (.asg (.var 2 false) (.sub (.var 0) (.str "place"))),
  (.asg (.sub (.var 0) (.str "place")) (.bin .add (.var 2) (.int 1))),
  (.ret (some (.bin .mod (.ite (.cmp .lt (.var 2) (.bi "len" [(.sub (.var 0) (.str "cells"))])) (.sub (.sub (.var 0) (.str "cells")) (.var 2)) (.bin .add (.bin .mul (.var 2) (.int 5)) (.bin .fdiv (.var 2) (.int 3)))) (.var 1))))]
noncomputable def jM:List String:=["deck","below","place"]
noncomputable def pE:List S:=[
  (.ret (some (.tup [(.tup []),(.int 1),(.tup [(.int 0),(.neg (.int 1)),(.sub (.var 0) (.int 2)),(.neg (.int 1)),(.int 0)]),(.bool false)])))]
noncomputable def pF:List String:=["pen"]
noncomputable def jN:List S:=[
  (.asg (.var 2 true) (.lst [])),
  (.whl (.cmp .lt (.bi "len" [(.var 2)]) (.var 1)) [
    (.asg (.tup [(.var 3 false),(.var 4 false)]) (.tup [(.call "_law_take" [(.var 0),(.int 7)]),(.bin .add (.int 1024) (.sub (.var 0) (.str "place")))])),
    (.asg (.var 5 false) (.sub (.glob "_law_looks") (.bin .mod (.var 3) (.int 2)))),
    (.ite (.cmp .lt (.var 3) (.int 2)) [
      (.app (.var 2) (.tup [(.tup [(.var 4)]),(.int 1),(.var 5),(.cmp .eq (.var 3) (.int 1))]) false)] [
      (.ite (.cmp .eq (.var 3) (.int 6)) [
        (.ext (.var 2) (.bin .mul (.lst [(.glob "_law_plain")]) (.bin .sub (.var 1) (.bi "len" [(.var 2)]))))] [
        (.ite (.or [(.cmp .lt (.var 3) (.int 4)),(.cmp .eq (.bin .add (.bi "len" [(.var 2)]) (.int 1)) (.var 1))]) [
          (.app (.var 2) (.call "_law_bare" [(.var 5)]) false)] [
          (.ext (.var 2) (.lst [(.tup [(.tup [(.var 4)]),(.int 2),(.var 5),(.cmp .eq (.var 3) (.int 5))]),(.tup [(.tup []),(.int 0),(.var 5),(.cmp .eq (.var 3) (.int 5))])]))])])])]),
  (.ret (some (.lst [(.mov 2),(.cmp .gt (.call "_law_take" [(.var 0),(.int 3)]) (.int 0)),(.sub (.glob "_law_sizes") (.call "_law_take" [(.var 0),(.int 7)]))])))]
noncomputable def jO:List String:=["deck","columns","cells","sort","code","pen"]
noncomputable def fR:List S:=[
  (.ret (some (.and [(.cmp .lt (.bin .add (.var 1) (.int 1)) (.bi "len" [(.var 0)])),(.sub (.sub (.var 0) (.var 1)) (.int 1)),(.cmp .eq (.sub (.sub (.var 0) (.var 1)) (.int 2)) (.str "single")),(.cmp .eq (.sub (.sub (.var 0) (.bin .add (.var 1) (.int 1))) (.int 2)) (.str "single"))])))]
noncomputable def fS:List String:=["lines","at"]
noncomputable def fT:List S:=[
  (.asg (.var 2 false) (.sub (.sub (.sub (.var 0) (.var 1)) (.int 0)) (.neg (.int 1)))),
  (.ret (some (.and [(.call "_law_goes_on" [(.var 0),(.var 1)]),(.cmp .eq (.sub (.var 2) (.int 0)) (.tup [])),(.cmp .eq (.sub (.var 2) (.int 1)) (.int 1)),(.cmp .eq (.sub (.sub (.sub (.sub (.var 0) (.bin .add (.var 1) (.int 1))) (.int 0)) (.int 0)) (.int 1)) (.int 2))])))]
noncomputable def fU:List String:=["lines","at","cell"]
noncomputable def jP:List S:=[
  (.asg (.var 3 true) (.lst [])),
  (.for_ (.var 4) (.rng (some (.var 1)) (.bin .add (.var 2) (.int 1))) [
    (.asg (.var 5 false) (.bin .sub (.bi "len" [(.sub (.sub (.var 0) (.var 4)) (.int 0))]) (.bi "int" [(.call "_law_is_free" [(.var 0),(.var 4)])]))),
    (.whl (.and [(.cmp .eq (.var 4) (.var 2)),(.cmp .gt (.var 5) (.int 0)),(.cmp .eq (.sub (.sub (.sub (.var 0) (.var 4)) (.int 0)) (.bin .sub (.var 5) (.int 1))) (.glob "_law_plain"))]) [
      (.asg (.var 5 false) (.bin .sub (.var 5) (.int 1)))]),
    (.ext (.var 3) (.comp (.tup [(.sub (.sub (.sub (.var 0) (.var 4)) (.int 0)) (.var 6)),(.tup [(.var 4),(.var 6)])]) (.var 6) (.rng Option.none (.var 5)) Option.none))]),
  (.ret (some (.mov 3)))]
noncomputable def jQ:List String:=["lines","first","last","found","at","many","column"]
noncomputable def jR:List S:=[
  (.asg (.tup [(.var 2 true),(.var 3 true),(.var 4 false)]) (.tup [(.lst [(.lst [])]),(.lst []),(.int 0)])),
  (.whl (.cmp .lt (.var 4) (.bi "len" [(.var 0)])) [
    (.asg (.var 5 false) (.sub (.sub (.var 0) (.var 4)) (.int 0))),
    (.asg (.var 6 false) (.ite (.cmp .eq (.sub (.var 5) (.int 1)) (.int 2)) (.lst [(.var 5),(.sub (.sub (.var 0) (.bin .add (.var 4) (.int 1))) (.int 0))]) (.lst [(.var 5)]))),
    (.asg (.var 7 false) (.ite (.cmp .le (.bi "len" [(.var 6)]) (.var 1)) (.var 6) (.frz (.lst [(.call "_law_bare" [(.sub (.var 5) (.int 2))])])))),
    (.ite (.cmp .gt (.bin .add (.bi "len" [(.sub (.var 2) (.neg (.int 1)))]) (.bi "len" [(.var 7)])) (.var 1)) [
      (.app (.var 2) (.lst []) true)] []),
    (.for_ (.var 8) (.rng Option.none (.bi "len" [(.var 6)])) [
      (.app (.var 3) (.tup [(.bin .sub (.bi "len" [(.var 2)]) (.int 1)),(.bin .add (.bi "len" [(.sub (.var 2) (.neg (.int 1)))]) (.bi "min" [(.var 8),(.bin .sub (.bi "len" [(.var 7)]) (.int 1))]))]) false)]),
    (.ext (.sub (.var 2) (.neg (.int 1))) (.var 7)),
    (.asg (.var 4 false) (.bin .add (.var 4) (.bi "len" [(.var 6)])))]),
  (.ret (some (.tup [(.mov 2),(.mov 3)])))]
noncomputable def jS:List String:=["told","columns","lines","places","at","cell","signs","shown","step"]
noncomputable def dL:List S:=[
  (.asg (.tup [(.var 6 false),(.var 7 false),(.var 8 false)]) (.sub (.var 1) (.var 2))),
  (.asg (.var 9 true) (.slc (.var 6) Option.none (some (.var 3)))),
  (.ite (.cmp .eq (.sub (.sub (.var 9) (.neg (.int 1))) (.int 1)) (.int 2)) [
    (.asg (.sub (.var 9) (.neg (.int 1))) (.call "_law_bare" [(.sub (.sub (.var 9) (.neg (.int 1))) (.int 2))]))] []),
  (.asg (.var 10 false) (.bi "len" [(.sub (.var 0) (.str "lines"))])),
  (.app (.sub (.var 0) (.str "lines")) (.lst [(.bin .add (.var 9) (.bin .mul (.lst [(.glob "_law_plain")]) (.bin .sub (.var 3) (.bi "len" [(.var 9)])))),(.and [(.var 7),(.cmp .eq (.var 3) (.bi "len" [(.var 6)]))]),(.var 8)]) false),
  (.for_ (.var 11) (.rng Option.none (.bi "len" [(.var 6)])) [
    (.app (.sub (.var 0) (.str "places")) (.tup [(.var 2),(.var 11),(.tup [(.var 10),(.bi "min" [(.var 11),(.bin .sub (.var 3) (.int 1))])])]) false)]),
  (.ite (.cmp .eq (.var 2) (.var 4)) [
    (.asg (.sub (.var 0) (.str "first")) (.var 10))] []),
  (.ite (.cmp .eq (.var 2) (.sub (.var 5) (.int 0))) [
    (.asg (.sub (.var 0) (.str "spot")) (.tup [(.var 10),(.bi "min" [(.sub (.var 5) (.int 1)),(.bin .sub (.var 3) (.int 1))]),(.and [(.sub (.var 5) (.int 2)),(.cmp .eq (.var 3) (.bi "len" [(.var 6)]))])]))] [])]
noncomputable def dM:List String:=["w","lines","at","columns","top","spot","cells","goes","size","cut","begun","column"]
noncomputable def ef:List S:=[
  (.asg (.var 4 false) (.bi "len" [(.comp (.var 7) (.tup [(.var 7),(.var 8)]) (.it (.var 0)) (some (.cmp .lt (.sub (.var 8) (.int 0)) (.sub (.var 3) (.int 0)))))])),
  (.asg (.var 5 false) (.bi "len" [(.comp (.var 9) (.tup [(.var 9),(.var 10)]) (.it (.var 0)) (some (.cmp .eq (.sub (.var 10) (.int 0)) (.sub (.var 3) (.int 0)))))])),
  (.ite (.and [(.cmp .lt (.sub (.var 3) (.int 0)) (.var 1)),(.cmp .ge (.sub (.var 3) (.int 1)) (.var 5))]) [
    (.ret (some (.tup [(.bin .sub (.bin .add (.var 4) (.var 5)) (.int 1)),(.str "free")])))] []),
  (.asg (.var 6 false) (.bin .add (.var 4) (.sub (.var 3) (.int 1)))),
  (.ite (.and [(.not (.sub (.var 3) (.int 2))),(.cmp2 .eq .gt (.var 6) (.bi "len" [(.var 0)]) (.int 0)),(.cmp .eq (.bi "len" [(.sub (.sub (.call "_law_laid" [(.var 0),(.var 2)]) (.int 0)) (.neg (.int 1)))]) (.var 2))]) [
    (.ret (some (.tup [(.mov 6),(.str "behind")])))] []),
  (.whl (.cmp .le (.bi "len" [(.var 0)]) (.var 6)) [
    (.app (.var 0) (.tup [(.glob "_law_plain"),(.tup [(.var 1),(.bin .sub (.bi "len" [(.var 0)]) (.var 4))])]) false)]),
  (.ret (some (.tup [(.mov 6),(.str "on")])))]
noncomputable def eh:List String:=["told","last","columns","spot","ahead","here","at","cell","place","cell","place"]
noncomputable def eI:List S:=[
  (.asg (.tup [(.var 7 true),(.var 8 false)]) (.tup [(.call "_law_told" [(.var 1),(.var 2),(.var 3)]),(.bi "len" [(.sub (.var 0) (.str "lines"))])])),
  (.asg (.var 9 false) (.cmp2 .le .le (.var 2) (.sub (.var 6) (.int 0)) (.var 3))),
  (.asg (.tup [(.var 10 false),(.var 11 false)]) (.ite (.var 9) (.call "_law_cursor_in" [(.var 7),(.var 3),(.var 4),(.var 6)]) (.tup [(.int 0),(.str "")]))),
  (.asg (.tup [(.var 12 false),(.var 13 false)]) (.call "_law_laid" [(.var 7),(.var 4)])),
  (.for_ (.tup [(.var 14),(.var 15)]) (.enum (.var 12)) [
    (.asg (.var 16 false) (.or [(.cmp .lt (.bin .add (.var 14) (.int 1)) (.bi "len" [(.var 12)])),(.sub (.sub (.var 1) (.var 3)) (.int 1))])),
    (.app (.sub (.var 0) (.str "lines")) (.lst [(.bin .add (.var 15) (.bin .mul (.lst [(.glob "_law_plain")]) (.bin .sub (.var 4) (.bi "len" [(.var 15)])))),(.var 16),(.str "single")]) false)]),
  (.frz (.var 7)),
  (.for_ (.tup [(.tup [(.var 17),(.var 18)]),(.var 19)]) (.zip (.var 7) (.var 13)) [
    (.app (.sub (.var 0) (.str "places")) (.tup [(.sub (.var 18) (.int 0)),(.sub (.var 18) (.int 1)),(.tup [(.bin .add (.var 8) (.sub (.var 19) (.int 0))),(.sub (.var 19) (.int 1))])]) false)]),
  (.ite (.cmp2 .le .le (.var 2) (.var 5) (.var 3)) [
    (.asg (.var 20 false) (.bi "len" [(.comp (.var 25) (.tup [(.var 25),(.var 26)]) (.it (.var 7)) (some (.cmp .lt (.sub (.var 26) (.int 0)) (.var 5))))])),
    (.asg (.sub (.var 0) (.str "first")) (.bin .add (.var 8) (.ite (.cmp .lt (.var 20) (.bi "len" [(.var 7)])) (.sub (.sub (.var 13) (.var 20)) (.int 0)) (.bin .sub (.bi "len" [(.var 12)]) (.int 1)))))] []),
  (.ite (.cmp .eq (.var 11) (.str "behind")) [
    (.asg (.sub (.var 0) (.str "spot")) (.tup [(.bin .sub (.bin .add (.var 8) (.bi "len" [(.var 12)])) (.int 1)),(.bin .sub (.var 4) (.int 1)),(.bool true)]))] [
    (.ite (.var 9) [
      (.asg (.tup [(.var 21 false),(.var 22 false)]) (.sub (.var 13) (.var 10))),
      (.asg (.var 23 false) (.or [(.cmp .eq (.var 11) (.str "free")),(.sub (.var 6) (.int 2))])),
      (.asg (.var 24 false) (.cmp .eq (.bin .add (.var 22) (.int 1)) (.var 4))),
      (.asg (.sub (.var 0) (.str "spot")) (.tup [(.bin .add (.var 8) (.var 21)),(.bin .add (.var 22) (.bi "int" [(.and [(.var 23),(.not (.var 24))])])),(.and [(.cmp .eq (.var 11) (.str "on")),(.sub (.var 6) (.int 2)),(.var 24)])]))] [])])]
noncomputable def eJ:List String:=["w","lines","first","last","columns","top","spot","told","begun","has_cursor","at","way","new","places","number","cells","goes","cell","old","place","ahead","row","column","goes_behind","is_last","cell","old"]
noncomputable def lz:List S:=[
  (.asg (.tup [(.var 4 true),(.var 5 false)]) (.tup [(.dct [("lines",(.lst [])),("places",(.lst [])),("first",(.int 0)),("spot",(.tup [(.int 0),(.int 0),(.bool false)]))]),(.int 0)])),
  (.whl (.cmp .lt (.var 5) (.bi "len" [(.var 0)])) [
    (.asg (.var 6 false) (.var 5)),
    (.whl (.call "_law_goes_on" [(.var 0),(.var 6)]) [
      (.asg (.var 6 false) (.bin .add (.var 6) (.int 1)))]),
    (.ite (.cmp .eq (.sub (.sub (.var 0) (.var 5)) (.int 2)) (.str "single")) [
      (.expr (.call "_law_together" [(.var 4),(.var 0),(.var 5),(.var 6),(.var 1),(.var 2),(.var 3)]))] [
      (.expr (.call "_law_other_size" [(.var 4),(.var 0),(.var 5),(.var 1),(.var 2),(.var 3)]))]),
    (.asg (.var 5 false) (.bin .add (.var 6) (.int 1)))]),
  (.ret (some (.mov 4)))]
noncomputable def lD:List String:=["lines","columns","top","spot","w","at","last"]
noncomputable def jT:List S:=[
  (.ret (some (.comp (.lst [(.bi "list" [(.attr (.var 1) "cells")]),(.attr (.var 1) "is_wrapped"),(.attr (.var 1) "size")]) (.var 1) (.it (.var 0)) Option.none)))]
noncomputable def jU:List String:=["lines","line"]
noncomputable def jV:List S:=[
  (.asg (.var 4 false) (.lst [(.bin .mul (.lst [(.glob "_law_plain")]) (.var 3)),(.bool false),(.str "single")])),
  (.whl (.and [(.cmp .gt (.bin .sub (.bi "len" [(.sub (.var 1) (.str "lines"))]) (.sub (.var 1) (.str "first"))) (.var 2)),(.cmp .gt (.bin .sub (.bi "len" [(.sub (.var 1) (.str "lines"))]) (.int 1)) (.sub (.sub (.var 1) (.str "spot")) (.int 0))),(.cmp .eq (.sub (.sub (.var 1) (.str "lines")) (.neg (.int 1))) (.var 4))]) [
    (.pop (.sub (.var 1) (.str "lines")))]),
  (.expr (.meth (.var 0) "Cutting" "give_up" "Cutting.give_up" [(.var 2)])),
  (.ite (.cmp .ne (.call "_law_seen" [(.attr (.var 0) "lines")]) (.sub (.var 1) (.str "lines"))) [
    (.ret (some (.bool false)))] []),
  (.asg (.var 5 false) (.bin .sub (.bi "len" [(.sub (.var 1) (.str "lines"))]) (.var 2))),
  (.asg (.var 6 false) (.ite (.cmp .gt (.var 5) (.sub (.var 1) (.str "first"))) (.bi "min" [(.var 5),(.sub (.sub (.var 1) (.str "spot")) (.int 0))]) (.bi "max" [(.int 0),(.bi "min" [(.sub (.var 1) (.str "first")),(.var 5)])]))),
  (.ret (some (.cmp .eq (.meth (.var 0) "Cutting" "top" "Cutting.top" [(.var 2)]) (.var 6))))]
noncomputable def jW:List String:=["cutting","w","rows","columns","bare","high","due"]
noncomputable def qR:List S:=[
  (.asg (.var 1 true) (.dct [("cells",(.comp (.bin .mod (.bi "int" [(.var 18)]) (.bin .pow (.int 10) (.int 9))) (.var 18) (.it (.slc (.var 0) Option.none (some (.int 63)))) Option.none)),("place",(.int 0))])),
  (.asg (.tup [(.var 2 false),(.var 3 false)]) (.tup [(.bin .add (.int 2) (.call "_law_take" [(.var 1),(.int 4)])),(.bin .add (.int 1) (.call "_law_take" [(.var 1),(.int 6)]))])),
  (.asg (.var 4 false) (.comp (.call "_law_line" [(.var 1),(.var 2)]) (.var 19) (.rng Option.none (.var 3)) Option.none)),
  (.asg (.var 5 false) (.call "_law_take" [(.var 1),(.var 3)])),
  (.asg (.var 6 false) (.bin .add (.var 5) (.call "_law_take" [(.var 1),(.bin .sub (.var 3) (.var 5))]))),
  (.asg (.var 7 false) (.ite (.cmp .eq (.sub (.sub (.var 4) (.var 6)) (.int 2)) (.str "single")) (.var 2) (.bin .fdiv (.var 2) (.int 2)))),
  (.asg (.tup [(.var 8 false),(.var 9 false)]) (.tup [(.call "_law_take" [(.var 1),(.var 7)]),(.cmp .eq (.call "_law_take" [(.var 1),(.int 2)]) (.int 1))])),
  (.asg (.var 10 false) (.tup [(.var 6),(.var 8),(.and [(.var 9),(.cmp .eq (.bin .add (.var 8) (.int 1)) (.var 7)),(.not (.call "_law_is_free" [(.var 4),(.var 6)]))])])),
  (.asg (.tup [(.var 11 false),(.var 12 false)]) (.tup [(.bin .add (.int 1) (.call "_law_take" [(.var 1),(.int 6)])),(.bin .add (.int 1) (.call "_law_take" [(.var 1),(.int 5)]))])),
  (.asg (.var 13 false) (.comp (.call "line_of" [(.var 20),(.var 21),(.var 22)]) (.tup [(.var 20),(.var 21),(.var 22)]) (.it (.var 4)) Option.none)),
  (.asg (.tup [(.var 14 true),(.var 15 true)]) (.tup [(.new "Cutting" "Cutting.__init__" [(.var 13),(.var 11),(.var 5),(.var 10)]),(.call "_law_cut" [(.var 4),(.var 11),(.var 5),(.var 10)])])),
  (.ite (.or [(.cmp .ne (.call "_law_seen" [(.attr (.var 14) "lines")]) (.sub (.var 15) (.str "lines"))),(.cmp .ne (.call "_law_seen" [(.var 13)]) (.var 4))]) [
    (.ret (some (.bool false)))] []),
  (.ite (.cmp .ne (.tup [(.attr (.var 14) "first"),(.tup [(.attr (.var 14) "row"),(.attr (.var 14) "column"),(.attr (.var 14) "is_waiting")])]) (.tup [(.sub (.var 15) (.str "first")),(.sub (.var 15) (.str "spot"))])) [
    (.ret (some (.bool false)))] []),
  (.frz (.sub (.var 15) (.str "places"))),
  (.for_ (.tup [(.var 16),(.var 8),(.var 17)]) (.it (.sub (.var 15) (.str "places"))) [
    (.ite (.cmp .ne (.meth (.var 14) "Cutting" "place_of" "Cutting.place_of" [(.var 16),(.var 8)]) (.var 17)) [
      (.ret (some (.bool false)))] [])]),
  (.ite (.or [(.cmp .isn (.meth (.var 14) "Cutting" "place_of" "Cutting.place_of" [(.var 3),(.int 0)]) .none),(.cmp .isn (.meth (.var 14) "Cutting" "place_of" "Cutting.place_of" [(.neg (.int 1)),(.int 0)]) .none)]) [
    (.ret (some (.bool false)))] []),
  (.ret (some (.call "_law_rest" [(.var 14),(.var 15),(.var 12),(.var 11)])))]
noncomputable def zm:List String:=["script","deck","old","many","lines","top","row","shown","column","waits","spot","columns","rows","given","cutting","w","line","place","cell","turn","cells","goes","size"]
noncomputable def ioT:String→List Bool
  |"Line.__init__"=>[true,false,false]
  |"LogicalLine.__init__"=>[true,false,false]
  |"LogicalLine.put"=>[true,false]
  |"LogicalLine.kept_to"=>[true,false]
  |"Cutting.__init__"=>[true,false,false,false,false]
  |"Cutting.put"=>[true,true,false,false,false]
  |"Cutting.go_behind"=>[true]
  |"Cutting.give_up"=>[true,false]
  |"_law_take"=>[true,false]
  |"_law_line"=>[true,false]
  |"_law_other_size"=>[true,false,false,false,false,false]
  |"_law_cursor_in"=>[true,false,false,false]
  |"_law_together"=>[true,false,false,false,false,false,false]
  |"_law_rest"=>[true,true,false,false]
  |"erased_pen"=>[false]
  |"blank_cell"=>[false]
  |"is_blank"=>[false]
  |"is_plain_blank"=>[false]
  |"line_blanks"=>[false,false]
  |"right_half"=>[false]
  |"line_slice"=>[false,false,false]
  |"Line:columns"=>[false]
  |"Line.copy"=>[false]
  |"Line.resized"=>[false,false,false]
  |"line_of"=>[false,false,false]
  |"LogicalLine.size_of"=>[false,false]
  |"LogicalLine.offset_of"=>[false,false,false]
  |"reflow_used"=>[false]
  |"reflow_begins_wide"=>[false]
  |"reflow_part"=>[false,false]
  |"reflow_goes_on"=>[false,false]
  |"logical_of"=>[false]
  |"cut_with_places"=>[false,false]
  |"reflow_place"=>[false,false,false]
  |"reflow_line"=>[false,false,false]
  |"Cutting.place_of"=>[false,false,false]
  |"Cutting.top"=>[false,false]
  |"_law_bare"=>[false]
  |"_law_goes_on"=>[false,false]
  |"_law_is_free"=>[false,false]
  |"_law_told"=>[false,false,false]
  |"_law_laid"=>[false,false]
  |"_law_cut"=>[false,false,false,false]
  |"_law_seen"=>[false]
  |"law"=>[false]
  |_=>[]
noncomputable def fnL:List (String×Fn):=[
  ("erased_pen",⟨1,[false],mC,1,mB⟩),
  ("blank_cell",⟨1,[false],mE,1,mD⟩),
  ("is_blank",⟨1,[false],jK,1,jJ⟩),
  ("is_plain_blank",⟨1,[false],dI,1,dH⟩),
  ("line_blanks",⟨2,[false,false],fH,2,fG⟩),
  ("right_half",⟨1,[false],mH,1,mG⟩),
  ("line_slice",⟨3,[false,false,false],gG,4,gF⟩),
  ("Line.__init__",⟨3,[true,false,false],i0,3,iZ⟩),
  ("Line:columns",⟨1,[false],eB,1,eA⟩),
  ("Line.copy",⟨1,[false],i5,2,i4⟩),
  ("Line.resized",⟨3,[false,false,false],eD,4,eC⟩),
  ("line_of",⟨3,[false,false,false],ly,4,lx⟩),
  ("LogicalLine.__init__",⟨3,[true,false,false],cX,3,cW⟩),
  ("LogicalLine.put",⟨2,[true,false],dl,2,dk⟩),
  ("LogicalLine.kept_to",⟨2,[true,false],cc,2,cb⟩),
  ("LogicalLine.size_of",⟨2,[false,false],cf,2,ce⟩),
  ("LogicalLine.offset_of",⟨3,[false,false,false],bP,4,bO⟩),
  ("reflow_used",⟨1,[false],fJ,2,fI⟩),
  ("reflow_begins_wide",⟨1,[false],cy,1,cx⟩),
  ("reflow_part",⟨2,[false,false],fL,3,fK⟩),
  ("reflow_goes_on",⟨2,[false,false],dK,2,dJ⟩),
  ("logical_of",⟨1,[false],gI,4,gH⟩),
  ("cut_with_places",⟨2,[false,false],dm,10,bU⟩),
  ("reflow_place",⟨3,[false,false,false],eF,3,eE⟩),
  ("reflow_line",⟨3,[false,false,false],fN,6,fM⟩),
  ("Cutting.__init__",⟨5,[true,false,false,false,false],eH,6,eG⟩),
  ("Cutting.put",⟨5,[true,true,false,false,false],fO,19,a6⟩),
  ("Cutting.go_behind",⟨1,[true],cL,1,cK⟩),
  ("Cutting.place_of",⟨3,[false,false,false],cZ,9,cY⟩),
  ("Cutting.give_up",⟨2,[true,false],dp,3,bV⟩),
  ("Cutting.top",⟨2,[false,false],fQ,2,fP⟩),
  ("_law_take",⟨2,[true,false],jM,3,jL⟩),
  ("_law_bare",⟨1,[false],pF,1,pE⟩),
  ("_law_line",⟨2,[true,false],jO,6,jN⟩),
  ("_law_goes_on",⟨2,[false,false],fS,2,fR⟩),
  ("_law_is_free",⟨2,[false,false],fU,3,fT⟩),
  ("_law_told",⟨3,[false,false,false],jQ,6,jP⟩),
  ("_law_laid",⟨2,[false,false],jS,9,jR⟩),
  ("_law_other_size",⟨6,[true,false,false,false,false,false],dM,12,dL⟩),
  ("_law_cursor_in",⟨4,[true,false,false,false],eh,7,ef⟩),
  ("_law_together",⟨7,[true,false,false,false,false,false,false],eJ,25,eI⟩),
  ("_law_cut",⟨4,[false,false,false,false],lD,7,lz⟩),
  ("_law_seen",⟨1,[false],jU,1,jT⟩),
  ("_law_rest",⟨4,[true,true,false,false],jW,7,jV⟩),
  ("law",⟨1,[false],zm,18,qR⟩)]
noncomputable def fnT(k:String):Option Fn:=fnL.lookup k
noncomputable def keys:List String:=["erased_pen","blank_cell","is_blank","is_plain_blank","line_blanks","right_half","line_slice","Line.__init__","Line:columns","Line.copy","Line.resized","line_of","LogicalLine.__init__","LogicalLine.put","LogicalLine.kept_to","LogicalLine.size_of","LogicalLine.offset_of","reflow_used","reflow_begins_wide","reflow_part","reflow_goes_on","logical_of","cut_with_places","reflow_place","reflow_line","Cutting.__init__","Cutting.put","Cutting.go_behind","Cutting.place_of","Cutting.give_up","Cutting.top","_law_take","_law_bare","_law_line","_law_goes_on","_law_is_free","_law_told","_law_laid","_law_other_size","_law_cursor_in","_law_together","_law_cut","_law_seen","_law_rest","law"]
noncomputable def bK:V:=.tup [.int 0,.int (-1),.int (-1),.int (-1),.int 0]
noncomputable def zn:List (String×V):=[
  ("NO_COLOUR",(.int (-1))),
  ("PLAIN",bK),
  ("BACK",(.int 2)),
  ("LINE_SIZES",(.tup [.str "single",.str "wide",.str "top",.str "bottom"])),
  ("SINGLE",(.str "single")),
  ("_law_plain",(.tup [.tup [],.int 1,bK,.bool false])),
  ("_law_looks",(.tup [bK,.tup [.int 1,.int 2,.int 4,.int (-1),.int 0]])),
  ("_law_sizes",(.tup [.str "single",.str "single",.str "single",.str "single",.str "wide",.str "top",.str "bottom"]))]
noncomputable def lE(k:String):Option V:=zn.lookup k
noncomputable def GT:Tab:={ io:=ioT,prop:=fun c a=>if c="Line" then(if a="columns" then some "Line:columns" else none)else none,glob:=lE }
noncomputable def Ph(d:Nat):Phi:=phi GT fnT d
end Mine.Internal
end
section
namespace Mine.Internal
open PySem PySem.W PyProof.Rows
noncomputable abbrev ae:=PySem.Str
noncomputable abbrev Pay:Nat→Type
  |0=>Const
  |1=>ae
  |2=>Expr×ae×Pos
  |3=>Expr×Expr
  |4=>Option Expr×Option Expr×Option Expr
  |5=>Expr×Operator×Expr
  |6=>UnaryOp×Expr
  |7=>Expr×List CmpOp×List Expr
  |8=>BoolOp×List Expr
  |9=>Expr×Expr×Expr
  |10=>List Expr
  |11=>List Expr
  |12=>List (Option Expr)×List Expr
  |13=>Expr×List Expr×List Keyword×Pos
  |14=>Expr×List Comprehension×Scope
  |_=>Unit
noncomputable def vw:Expr→(i:Nat)×Pay i
  |.Constant c _ _=>⟨0,c⟩
  |.Name n _=>⟨1,n⟩
  |.Attribute v n p=>⟨2,v,n,p⟩
  |.Subscript v k _=>⟨3,v,k⟩
  |.Slice l h s _=>⟨4,l,h,s⟩
  |.BinOp l o r _=>⟨5,l,o,r⟩
  |.UnaryOp o v _=>⟨6,o,v⟩
  |.Compare l o r _=>⟨7,l,o,r⟩
  |.BoolOp o l _=>⟨8,o,l⟩
  |.IfExp t u v _=>⟨9,t,u,v⟩
  |.Tuple l _ _=>⟨10,l⟩
  |.List l _=>⟨11,l⟩
  |.Dict k v _=>⟨12,k,v⟩
  |.Call f l k p=>⟨13,f,l,k,p⟩
  |.ListComp e g s _=>⟨14,e,g,s⟩
  |_=>⟨15,()⟩
noncomputable def Sh(p:Expr):(i:Nat)→Pay i→Prop
  |0,c=>∃k z,p=.Constant c k z
  |1,n=>∃z,p=.Name n z
  |2,x=>p=.Attribute x.1 x.2.1 x.2.2
  |3,x=>∃z,p=.Subscript x.1 x.2 z
  |4,x=>∃z,p=.Slice x.1 x.2.1 x.2.2 z
  |5,x=>∃z,p=.BinOp x.1 x.2.1 x.2.2 z
  |6,x=>∃z,p=.UnaryOp x.1 x.2 z
  |7,x=>∃z,p=.Compare x.1 x.2.1 x.2.2 z
  |8,x=>∃z,p=.BoolOp x.1 x.2 z
  |9,x=>∃z,p=.IfExp x.1 x.2.1 x.2.2 z
  |10,l=>∃k z,p=.Tuple l k z
  |11,l=>∃z,p=.List l z
  |12,x=>∃z,p=.Dict x.1 x.2 z
  |13,x=>p=.Call x.1 x.2.1 x.2.2.1 x.2.2.2
  |14,x=>∃z,p=.ListComp x.1 x.2.1 x.2.2 z
  |_,_=>True
theorem C3(p:Expr):Sh p (vw p).1 (vw p).2:=by
  cases p<;>first|exact trivial|exact rfl|exact⟨_,rfl⟩|exact⟨_,_,rfl⟩
noncomputable def on(i:Nat)(t:(i:Nat)×Pay i)(f:Pay i→Bool):Bool:=if h:t.1=i then f (h▸t.2)else false
theorem eK{i:Nat}{p:Expr}{f:Pay i→Bool}(h:on i (vw p) f=true):∃x,Sh p i x∧f x=true:=by
  have s:=C3 p
  unfold on at h
  split at h
  · rename_i e
    subst e
    exact⟨_,s,h⟩
  · cases h
noncomputable abbrev mI:Nat→Type
  |0=>List Expr×Expr
  |1=>Expr
  |2=>Expr×List Stmt×List Stmt
  |3=>Expr×List Stmt×List Stmt
  |4=>Expr×Expr×List Stmt×List Stmt
  |5=>Option Expr
  |_=>Unit
noncomputable def vwS:Stmt→(i:Nat)×mI i
  |.Assign u p _=>⟨0,u,p⟩
  |.Expr p _=>⟨1,p⟩
  |.If t u v _=>⟨2,t,u,v⟩
  |.While t u v _=>⟨3,t,u,v⟩
  |.For t i u v _=>⟨4,t,i,u,v⟩
  |.Return v _=>⟨5,v⟩
  |_=>⟨6,()⟩
noncomputable def ShS(p:Stmt):(i:Nat)→mI i→Prop
  |0,x=>∃z,p=.Assign x.1 x.2 z
  |1,x=>∃z,p=.Expr x z
  |2,x=>∃z,p=.If x.1 x.2.1 x.2.2 z
  |3,x=>∃z,p=.While x.1 x.2.1 x.2.2 z
  |4,x=>∃z,p=.For x.1 x.2.1 x.2.2.1 x.2.2.2 z
  |5,x=>∃z,p=.Return x z
  |_,_=>True
theorem Ae(p:Stmt):ShS p (vwS p).1 (vwS p).2:=by
  cases p<;>first|exact trivial|exact⟨_,rfl⟩
noncomputable def onS(i:Nat)(t:(i:Nat)×mI i)(f:mI i→Bool):Bool:=if h:t.1=i then f (h▸t.2)else false
theorem lF{i:Nat}{p:Stmt}{f:mI i→Bool}(h:onS i (vwS p) f=true):∃x,ShS p i x∧f x=true:=by
  have s:=Ae p
  unfold onS at h
  split at h
  · rename_i e
    subst e
    exact⟨_,s,h⟩
  · cases h
theorem ns{α:Type}{a:α}{P:Prop}(h:none=some a):P:=by cases h
theorem nin{α:Type}{P:α→Prop}:∀a∈([]:List α),P a:=fun _ h=>absurd h List.not_mem_nil
theorem oA{a b:Bool}{R:Prop}(h:(a&&b)=true)(k:a=true→b=true→R):R:=by
  cases a with
  |false=>exact absurd h Bool.false_ne_true
  |true=>exact k rfl h
theorem oB{α β:Type}{o:Option α}{f:α→Option β}{r:β}{R:Prop}(h:o.bind f=some r)(k:∀a,o=some a→f a=some r→R):R:=by
  cases o with
  |none=>cases h
  |some a=>exact k a rfl h
theorem oP{α β γ:Type}{o:Option (α×β)}{f:α×β→Option γ}{r:γ}{R:Prop}(h:o.bind f=some r)(k:∀a b,o=some (a,b)→f (a,b)=some r→R):R:=oB h fun p=>k p.1 p.2
theorem oM{α β:Type}{o:Option α}{f:α→β}{r:β}{R:Prop}(h:o.map f=some r)(k:∀a,o=some a→f a=r→R):R:=by
  cases o with
  |none=>cases h
  |some a=>exact k a rfl (Option.some.inj h)
theorem oI{α:Type}{c:Prop}[d:Decidable c]{x:Option α}{r:α}{R:Prop}(h:(if c then x else none)=some r)(k:c→x=some r→R):R:=by
  cases d with
  |isFalse q=>cases h
  |isTrue q=>exact k q h
end Mine.Internal
end
section
namespace Mine.Internal
open PySem PySem.W PyProof.Rows
structure Cls where
  of:String→Option Addr
  prog:Program
  w:World
structure Cx where
  cl:Cls
  K:Frag
  h₀:Heap
  mg:ae→Option Value
  mb:ae→Option Value
  G:Tab
  tab:String→Option Fn
  fa:String→Option Addr
structure Y where
  s:Shared
  F:Addr→Prop
  ρ:List Value
  os:List (List Addr)
noncomputable abbrev Y.h(y:Y):Heap:=y.s.heap
noncomputable def Y.fz(y:Y)(f:List Addr):Y:=⟨y.s,fun b=>y.F b∨b∈f,y.ρ,y.os⟩
noncomputable def Y.to(y:Y)(s:Shared):Y:=⟨s,y.F,y.ρ,y.os⟩
noncomputable def Y.tf(y:Y)(s:Shared)(F:Addr→Prop):Y:=⟨s,F,y.ρ,y.os⟩
noncomputable def Y.va(y:Y)(ρ:List Value)(os:List (List Addr)):Y:=⟨y.s,y.F,ρ,os⟩
noncomputable def Kp(y y':Y)(b:Addr):Prop:=∀o,y.h.get? b=some o→y'.h.get? b=some o
noncomputable def Y.has(y:Y)(b:Addr):Prop:=∃o,y.h.get? b=some o
noncomputable def Y.no(y:Y)(b:Addr):Prop:=y.h.get? b=none
noncomputable def mJ:Value→Option ae
  |.str n _=>some n
  |_=>none
noncomputable def Ent(es:List DictEntry)(kvs:List (ae×Value)):Prop:=es.map (fun e=>(mJ e.key,e.val))=kvs.map fun p=>(some p.1,p.2)
noncomputable def gJ(C:Cx)(y:Y)(c:String)(a d:Addr)(kvs:List (ae×Value)):Prop:=∃A es n,C.cl.of c=some A∧y.h.get? a=some (instObj A d)∧y.h.get? d=some (dictOf es n)∧Ent es kvs
noncomputable abbrev iA(C:Cx)(y:Y)(a:Addr)(kvs:List (ae×Value)):Prop:=y.h.DictOf (strKind C.cl.prog C.cl.w) a kvs
mutual
noncomputable def aV(C:Cx)(y:Y):Value→V→Prop
  |u,.none=>u=.none
  |u,.bool b=>u=.bool b
  |u,.int i=>∃t,u=.int i t
  |u,.str s=>∃t,u=.str (Str.ofString s) t
  |u,.tup l=>∃a vs,u=.ref a∧y.F a∧y.h.IsTuple a vs∧l.length≤big∧al C y vs.toList l
  |u,.lst l=>∃a vs,u=.ref a∧y.F a∧y.h.PlainList a vs∧l.length≤big∧al C y vs.toList l
  |u,.obj c fs=>∃a d kvs,u=.ref a∧y.F a∧y.F d∧gJ C y c a d kvs∧ei C y kvs fs
noncomputable def al(C:Cx)(y:Y):List Value→List V→Prop
  |us,[]=>us=[]
  |us,x::r=>∃u ws,us=u::ws∧aV C y u x∧al C y ws r
noncomputable def ei(C:Cx)(y:Y):List (ae×Value)→List (String×V)→Prop
  |es,[]=>es=[]
  |es,(n,x)::r=>∃u ws,es=(Str.ofString n,u)::ws∧aV C y u x∧ei C y ws r
end
mutual
noncomputable def ag(C:Cx)(y:Y):Value→M→List Addr→Prop
  |_,.undef,fp=>fp=[]
  |u,.v x,fp=>fp=[]∧aV C y u x
  |u,.tup l,fp=>∃a vs,u=.ref a∧y.F a∧y.h.IsTuple a vs∧l.length≤big∧aw C y vs.toList l fp
  |u,.lst l,fp=>∃a vs,u=.ref a∧fp=[a]∧y.h.PlainList a vs∧l.length≤big∧al C y vs.toList l
  |u,.lstM l,fp=>∃a vs f1,u=.ref a∧fp=a::f1∧y.h.PlainList a vs∧l.length≤big∧aw C y vs.toList l f1
  |u,.obj c fs,fp=>∃a d kvs f1,u=.ref a∧fp=a::d::f1∧gJ C y c a d kvs∧az C y kvs fs f1
  |u,.dct fs,fp=>∃a kvs f1,u=.ref a∧fp=a::f1∧iA C y a kvs∧az C y kvs fs f1
noncomputable def aw(C:Cx)(y:Y):List Value→List M→List Addr→Prop
  |us,[],fp=>us=[]∧fp=[]
  |us,x::r,fp=>∃u ws f1 f2,us=u::ws∧fp=f1++f2∧ag C y u x f1∧aw C y ws r f2
noncomputable def az(C:Cx)(y:Y):List (ae×Value)→List (String×M)→List Addr→Prop
  |es,[],fp=>es=[]∧fp=[]
  |es,(n,x)::r,fp=>∃u ws f1 f2,es=(Str.ofString n,u)::ws∧fp=f1++f2∧ag C y u x f1∧az C y ws r f2
end
structure Stay (y y':Y) (O:List Addr):Prop where
  frz:∀b,y.F b→Kp y y' b
  own:∀b∈O,Kp y y' b
  fsub:∀b,y.F b→y'.F b
theorem Stay.sub{y y':Y}{O O':List Addr}(S:Stay y y' O)(hs:∀b∈O',b∈O):Stay y y' O':=⟨S.frz,fun b hb=>S.own b (hs b hb),S.fsub⟩
theorem Stay.nil{y y':Y}{O:List Addr}(S:Stay y y' O):Stay y y' []:=S.sub nofun
theorem Kp.of{y y':Y}{b:Addr}(h:y'.s=y.s):Kp y y' b:=fun _ e=>(show y'.h=y.h from congrArg Shared.heap h)▸e
theorem Kp.trans{y y' y'':Y}{b:Addr}(h:Kp y y' b)(h':Kp y' y'' b):Kp y y'' b:=fun o e=>h' o (h o e)
theorem Stay.up{y y':Y}{O:List Addr}(h:y'.s=y.s)(hF:∀b,y.F b→y'.F b):Stay y y' O:=⟨fun _ _=>.of h,fun _ _=>.of h,hF⟩
theorem Stay.trans{y y' y'':Y}{O:List Addr}(T:Stay y y' O)(T':Stay y' y'' O):Stay y y'' O:=
  ⟨fun b hb=>(T.frz b hb).trans (T'.frz b (T.fsub b hb)),fun b hb=>(T.own b hb).trans (T'.own b hb),fun b hb=>T'.fsub b (T.fsub b hb)⟩
theorem V.ind{P:V→Prop}{Ps:List V→Prop}{Pk:List (String×V)→Prop}(h0:P .none)(hb:∀b,P (.bool b))(hi:∀i,P (.int i))(hs:∀s,P (.str s))(ht:∀l,Ps l→P (.tup l))(hl:∀l,Ps l→P (.lst l))(ho:∀c fs,Pk fs→P (.obj c fs))
    (n:Ps [])(c:∀x r,P x→Ps r→Ps (x::r))(nk:Pk [])(ck:∀n x r,P x→Pk r→Pk ((n,x)::r)):(∀x,P x)∧(∀l,Ps l)∧∀fs,Pk fs:=
  ⟨fun x=>V.rec (motive_1:=P) (motive_2:=Ps) (motive_3:=Pk) (motive_4:=fun p=>P p.2) h0 hb hi hs ht hl ho n c nk (fun p r=>ck p.1 p.2 r) (fun _ _ h=>h) x,
    fun x=>V.rec_1 (motive_1:=P) (motive_2:=Ps) (motive_3:=Pk) (motive_4:=fun p=>P p.2) h0 hb hi hs ht hl ho n c nk (fun p r=>ck p.1 p.2 r) (fun _ _ h=>h) x,
    fun x=>V.rec_2 (motive_1:=P) (motive_2:=Ps) (motive_3:=Pk) (motive_4:=fun p=>P p.2) h0 hb hi hs ht hl ho n c nk (fun p r=>ck p.1 p.2 r) (fun _ _ h=>h) x⟩
theorem M.ind{P:M→Prop}{Ps:List M→Prop}{Pk:List (String×M)→Prop}(h0:P .undef)(hv:∀x,P (.v x))(ht:∀l,Ps l→P (.tup l))(hl:∀l,P (.lst l))(hm:∀l,Ps l→P (.lstM l))(ho:∀c fs,Pk fs→P (.obj c fs))(hd:∀fs,Pk fs→P (.dct fs))
    (n:Ps [])(c:∀x r,P x→Ps r→Ps (x::r))(nk:Pk [])(ck:∀n x r,P x→Pk r→Pk ((n,x)::r)):(∀x,P x)∧(∀l,Ps l)∧∀fs,Pk fs:=
  ⟨fun x=>M.rec (motive_1:=P) (motive_2:=Ps) (motive_3:=Pk) (motive_4:=fun p=>P p.2) h0 hv ht hl hm ho hd n c nk (fun p r=>ck p.1 p.2 r) (fun _ _ h=>h) x,
    fun x=>M.rec_1 (motive_1:=P) (motive_2:=Ps) (motive_3:=Pk) (motive_4:=fun p=>P p.2) h0 hv ht hl hm ho hd n c nk (fun p r=>ck p.1 p.2 r) (fun _ _ h=>h) x,
    fun x=>M.rec_2 (motive_1:=P) (motive_2:=Ps) (motive_3:=Pk) (motive_4:=fun p=>P p.2) h0 hv ht hl hm ho hd n c nk (fun p r=>ck p.1 p.2 r) (fun _ _ h=>h) x⟩
section
variable {C:Cx} {y y':Y} {u:Value} {us:List Value} {kvs:List (ae×Value)} {fp:List Addr}
@[elab_as_elim] theorem aV.int_e{i:Int}{R:Value→Prop}(r:aV C y u (.int i))(k:∀t,R (.int i t)):R u:=by
  obtain⟨t,rfl⟩:=r;exact k t
@[elab_as_elim] theorem aV.str_e{s:String}{R:Value→Prop}(r:aV C y u (.str s))(k:∀t,R (.str (Str.ofString s) t)):R u:=by
  obtain⟨t,rfl⟩:=r;exact k t
@[elab_as_elim] theorem aV.tup_e{l:List V}{R:Value→Prop}(r:aV C y u (.tup l))(k:∀a vs,y.F a→y.h.IsTuple a vs→l.length≤big→al C y vs.toList l→R (.ref a)):R u:=by
  obtain⟨a,vs,rfl,h1,h2,h3,h4⟩:=r;exact k a vs h1 h2 h3 h4
@[elab_as_elim] theorem aV.lst_e{l:List V}{R:Value→Prop}(r:aV C y u (.lst l))(k:∀a vs,y.F a→y.h.PlainList a vs→l.length≤big→al C y vs.toList l→R (.ref a)):R u:=by
  obtain⟨a,vs,rfl,h1,h2,h3,h4⟩:=r;exact k a vs h1 h2 h3 h4
@[elab_as_elim] theorem aV.obj_e{c:String}{fs:List (String×V)}{R:Value→Prop}(r:aV C y u (.obj c fs))(k:∀a d kvs,y.F a→y.F d→gJ C y c a d kvs→ei C y kvs fs→R (.ref a)):R u:=by
  obtain⟨a,d,kvs,rfl,h1,h2,h3,h4⟩:=r;exact k a d kvs h1 h2 h3 h4
@[elab_as_elim] theorem al.cons_e{x:V}{l:List V}{R:List Value→Prop}(r:al C y us (x::l))(k:∀u ws,aV C y u x→al C y ws l→R (u::ws)):R us:=by
  obtain⟨u,ws,rfl,h1,h2⟩:=r;exact k u ws h1 h2
@[elab_as_elim] theorem ei.cons_e{n:String}{x:V}{l:List (String×V)}{R:List (ae×Value)→Prop}(r:ei C y kvs ((n,x)::l))(k:∀u ws,aV C y u x→ei C y ws l→R ((Str.ofString n,u)::ws)):R kvs:=by
  obtain⟨u,ws,rfl,h1,h2⟩:=r;exact k u ws h1 h2
@[elab_as_elim] theorem ag.tup_e{l:List M}{R:Value→Prop}(r:ag C y u (.tup l) fp)(k:∀a vs,y.F a→y.h.IsTuple a vs→l.length≤big→aw C y vs.toList l fp→R (.ref a)):R u:=by
  obtain⟨a,vs,rfl,h1,h2,h3,h4⟩:=r;exact k a vs h1 h2 h3 h4
@[elab_as_elim] theorem ag.lst_e{l:List V}{R:Value→List Addr→Prop}(r:ag C y u (.lst l) fp)(k:∀a vs,y.h.PlainList a vs→l.length≤big→al C y vs.toList l→R (.ref a) [a]):R u fp:=by
  obtain⟨a,vs,rfl,rfl,h2,h3,h4⟩:=r;exact k a vs h2 h3 h4
@[elab_as_elim] theorem ag.lstM_e{l:List M}{R:Value→List Addr→Prop}(r:ag C y u (.lstM l) fp)(k:∀a vs f,y.h.PlainList a vs→l.length≤big→aw C y vs.toList l f→R (.ref a) (a::f)):R u fp:=by
  obtain⟨a,vs,f,rfl,rfl,h2,h3,h4⟩:=r;exact k a vs f h2 h3 h4
@[elab_as_elim] theorem ag.obj_e{c:String}{fs:List (String×M)}{R:Value→List Addr→Prop}(r:ag C y u (.obj c fs) fp)(k:∀a d kvs f,gJ C y c a d kvs→az C y kvs fs f→R (.ref a) (a::d::f)):R u fp:=by
  obtain⟨a,d,kvs,f,rfl,rfl,h2,h3⟩:=r;exact k a d kvs f h2 h3
@[elab_as_elim] theorem ag.dct_e{fs:List (String×M)}{R:Value→List Addr→Prop}(r:ag C y u (.dct fs) fp)(k:∀a kvs f,iA C y a kvs→az C y kvs fs f→R (.ref a) (a::f)):R u fp:=by
  obtain⟨a,kvs,f,rfl,rfl,h2,h3⟩:=r;exact k a kvs f h2 h3
@[elab_as_elim] theorem aw.nil_e{R:List Value→List Addr→Prop}(r:aw C y us [] fp)(k:R [] []):R us fp:=by
  obtain⟨rfl,rfl⟩:=r;exact k
@[elab_as_elim] theorem aw.cons_e{x:M}{l:List M}{R:List Value→List Addr→Prop}(r:aw C y us (x::l) fp)(k:∀u ws f g,ag C y u x f→aw C y ws l g→R (u::ws) (f++g)):R us fp:=by
  obtain⟨u,ws,f,g,rfl,rfl,h1,h2⟩:=r;exact k u ws f g h1 h2
@[elab_as_elim] theorem az.nil_e{R:List (ae×Value)→List Addr→Prop}(r:az C y kvs [] fp)(k:R [] []):R kvs fp:=by
  obtain⟨rfl,rfl⟩:=r;exact k
@[elab_as_elim] theorem az.cons_e{n:String}{x:M}{l:List (String×M)}{R:List (ae×Value)→List Addr→Prop}(r:az C y kvs ((n,x)::l) fp)(k:∀u ws f g,ag C y u x f→az C y ws l g→R ((Str.ofString n,u)::ws) (f++g)):R kvs fp:=by
  obtain⟨u,ws,f,g,rfl,rfl,h1,h2⟩:=r;exact k u ws f g h1 h2
theorem nM{a:Addr}{vs:Array Value}(x:y.h.IsTuple a vs)(k:Kp y y' a):y'.h.IsTuple a vs:=by
  obtain⟨o,ho,q⟩:=x;exact⟨o,k o ho,q⟩
theorem d4{a:Addr}{vs:Array Value}(x:y.h.PlainList a vs)(k:Kp y y' a):y'.h.PlainList a vs:=by
  obtain⟨n,ho⟩:=x;exact⟨n,k _ ho⟩
theorem gJ.keep{c:String}{a d:Addr}(x:gJ C y c a d kvs)(ka:Kp y y' a)(kd:Kp y y' d):gJ C y' c a d kvs:=by
  obtain⟨A,es,n,h1,h2,h3,h4⟩:=x;exact⟨A,es,n,h1,ka _ h2,kd _ h3,h4⟩
theorem lG{a:Addr}(x:iA C y a kvs)(k:Kp y y' a):iA C y' a kvs:=by
  obtain⟨o,es,ep,ho,q⟩:=x;exact⟨o,es,ep,k o ho,q⟩
theorem ff{g:Bool}{P:Prop}(h:g=true→false=true)(hg:g=true):P:=absurd (h hg) Bool.false_ne_true
theorem aV.map(g:Bool)(H:∀b o,y.F b→y.h.get? b=some o→(g=true→∃vs,y.h.IsTuple b vs)→y'.F b∧y'.h.get? b=some o):
    (∀x:V,∀{u},aV C y u x→(g=true→x.pure=true)→aV C y' u x)∧(∀l:List V,∀{us},al C y us l→(g=true→V.pures l=true)→al C y' us l)∧(∀fs:List (String×V),∀{kvs},ei C y kvs fs→(g=true→false=true)→ei C y' kvs fs):=by
  refine V.ind (fun e _=>e) (fun _ _ e _=>e) (fun _ _ e _=>e) (fun _ _ e _=>e) (fun l ih u r hp=>?_) (fun l ih u r hp=>?_) (fun c fs ih u r hp=>?_) (fun r _=>r) (fun x l hx hl us r hp=>?_) (fun r _=>r) (fun n x l hx hl us r hp=>?_)
  · refine r.tup_e fun a vs h1 h2 h3 h4=>⟨a,vs,rfl,?_,nM h2 fun o ho=>(H a o h1 ho fun _=>⟨vs,h2⟩).2,h3,ih h4 hp⟩
    obtain⟨o,ho,hc⟩:=id h2
    exact(H a o h1 ho fun _=>⟨vs,h2⟩).1
  · refine r.lst_e fun a vs h1 h2 h3 h4=>⟨a,vs,rfl,?_,d4 h2 fun o ho=>(H a o h1 ho (ff hp)).2,h3,ih h4 (ff hp)⟩
    obtain⟨n,ho⟩:=h2
    exact(H a _ h1 ho (ff hp)).1
  · refine r.obj_e fun a d kvs h1 h2 h3 h4=>⟨a,d,kvs,rfl,?_,?_,h3.keep (fun o ho=>(H a o h1 ho (ff hp)).2) (fun o ho=>(H d o h2 ho (ff hp)).2),ih h4 hp⟩
    · obtain⟨A,es,n,_,ho,_⟩:=h3
      exact(H a _ h1 ho (ff hp)).1
    · obtain⟨A,es,n,_,_,ho,_⟩:=h3
      exact(H d _ h2 ho (ff hp)).1
  · exact r.cons_e fun u ws h1 h2=>⟨u,ws,rfl,hx h1 fun q=>(oA (hp q) And.intro).1,hl h2 fun q=>(oA (hp q) And.intro).2⟩
  · exact r.cons_e fun u ws h1 h2=>⟨u,ws,rfl,hx h1 (ff hp),hl h2 hp⟩
theorem ag.map(g:Bool)(H:∀b o,y.F b→y.h.get? b=some o→(g=true→∃vs,y.h.IsTuple b vs)→y'.F b∧y'.h.get? b=some o):
    (∀x:M,∀{u fp},(∀b∈fp,Kp y y' b)→ag C y u x fp→(g=true→x.indep=true)→ag C y' u x fp)∧
    (∀l:List M,∀{us fp},(∀b∈fp,Kp y y' b)→aw C y us l fp→(g=true→M.indeps l=true)→aw C y' us l fp)∧
    (∀fs:List (String×M),∀{kvs fp},(∀b∈fp,Kp y y' b)→az C y kvs fs fp→(g=true→M.indepf fs=true)→az C y' kvs fs fp):=by
  have VM:=aV.map (C:=C) g H
  refine M.ind (fun _ e _=>e) (fun x u fp _ r hp=>⟨r.1,VM.1 x r.2 hp⟩) (fun l ih u fp k r hp=>?_) (fun l u fp k r hp=>?_) (fun l ih u fp k r hp=>?_) (fun c fs ih u fp k r hp=>?_) (fun fs ih u fp k r hp=>?_)
    (fun _ r _=>r) (fun x l hx hl us fp k r hp=>?_) (fun _ r _=>r) (fun n x l hx hl us fp k r hp=>?_)
  · refine r.tup_e fun a vs h1 h2 h3 h4=>⟨a,vs,rfl,?_,nM h2 fun o ho=>(H a o h1 ho fun _=>⟨vs,h2⟩).2,h3,ih k h4 hp⟩
    obtain⟨o,ho,hc⟩:=id h2
    exact(H a o h1 ho fun _=>⟨vs,h2⟩).1
  · exact r.lst_e (R:=fun u fp=>(∀b∈fp,Kp y y' b)→ag C y' u (.lst l) fp) (fun a vs h2 h3 h4 k=>⟨a,vs,rfl,rfl,d4 h2 (k a (.head _)),h3,VM.2.1 l h4 hp⟩) k
  · exact r.lstM_e (R:=fun u fp=>(∀b∈fp,Kp y y' b)→ag C y' u (.lstM l) fp) (fun a vs f h2 h3 h4 k=>⟨a,vs,f,rfl,rfl,d4 h2 (k a (.head _)),h3,ih (fun b hb=>k b (.tail _ hb)) h4 hp⟩) k
  · exact r.obj_e (R:=fun u fp=>(∀b∈fp,Kp y y' b)→ag C y' u (.obj c fs) fp) (fun a d kvs f h2 h3 k=>⟨a,d,kvs,f,rfl,rfl,h2.keep (k a (.head _)) (k d (.tail _ (.head _))),ih (fun b hb=>k b (.tail _ (.tail _ hb))) h3 hp⟩) k
  · exact r.dct_e (R:=fun u fp=>(∀b∈fp,Kp y y' b)→ag C y' u (.dct fs) fp) (fun a kvs f h2 h3 k=>⟨a,kvs,f,rfl,rfl,lG h2 (k a (.head _)),ih (fun b hb=>k b (.tail _ hb)) h3 hp⟩) k
  · exact r.cons_e (R:=fun us fp=>(∀b∈fp,Kp y y' b)→aw C y' us (x::l) fp) (fun u ws f f' h1 h2 k=>⟨u,ws,f,f',rfl,rfl,hx (fun b hb=>k b (List.mem_append_left _ hb)) h1 fun q=>(oA (hp q) And.intro).1,hl (fun b hb=>k b (List.mem_append_right _ hb)) h2 fun q=>(oA (hp q) And.intro).2⟩) k
  · exact r.cons_e (R:=fun us fp=>(∀b∈fp,Kp y y' b)→az C y' us ((n,x)::l) fp) (fun u ws f f' h1 h2 k=>⟨u,ws,f,f',rfl,rfl,hx (fun b hb=>k b (List.mem_append_left _ hb)) h1 fun q=>(oA (hp q) And.intro).1,hl (fun b hb=>k b (List.mem_append_right _ hb)) h2 fun q=>(oA (hp q) And.intro).2⟩) k
theorem Stay.all{O:List Addr}(S:Stay y y' O):∀b o,y.F b→y.h.get? b=some o→(false=true→∃vs,y.h.IsTuple b vs)→y'.F b∧y'.h.get? b=some o:=fun b o hb e _=>⟨S.fsub b hb,S.frz b hb o e⟩
theorem aV.stay{x:V}(r:aV C y u x)(S:Stay y y' []):aV C y' u x:=(aV.map false S.all).1 x r nofun
theorem al.stay{x:List V}(r:al C y us x)(S:Stay y y' []):al C y' us x:=(aV.map false S.all).2.1 x r nofun
theorem ag.stay{x:M}(r:ag C y u x fp)(S:Stay y y' fp):ag C y' u x fp:=(ag.map false S.all).1 x S.own r nofun
theorem aw.stay{x:List M}(r:aw C y us x fp)(S:Stay y y' fp):aw C y' us x fp:=(ag.map false S.all).2.1 x S.own r nofun
theorem az.stay{x:List (String×M)}(r:az C y kvs x fp)(S:Stay y y' fp):az C y' kvs x fp:=(ag.map false S.all).2.2 x S.own r nofun
theorem ag.indep{x:M}(r:ag C y u x fp)(hk:∀b,Kp y y' b)(HF:∀b vs,y.F b→y.h.IsTuple b vs→y'.F b)(hp:x.indep=true):ag C y' u x fp:=
  (ag.map true fun b o hb e hc=>⟨(hc rfl).elim fun vs h=>HF b vs hb h,hk b o e⟩).1 x (fun b _=>hk b) r fun _=>hp
theorem Stay.fz{O f:List Addr}:Stay y (y.fz f) O:=.up rfl fun _=>.inl
theorem i6:∀{l:List M} {xs:List V},M.toVs l=some xs→l.length=xs.length:=by
  intro l
  induction l with
  |nil=>intro xs e;cases e;rfl
  |cons m r ih=>intro xs e;exact oB e fun x _ e=>oM e fun ys hy e=>e▸congrArg Nat.succ (ih hy)
theorem Stay.fzs{O f g:List Addr}(h:∀b∈f,b∈g):Stay (y.fz f) (y.fz g) O:=.up rfl fun b hb=>hb.imp id (h b)
theorem ag.frz_:(∀m:M,∀{x u fp},ag C y u m fp→m.toV=some x→aV C (y.fz fp) u x)∧(∀l:List M,∀{xs us fp},aw C y us l fp→M.toVs l=some xs→al C (y.fz fp) us xs)∧
    (∀fs:List (String×M),∀{xs kvs fp},az C y kvs fs fp→M.toVf fs=some xs→ei C (y.fz fp) kvs xs):=by
  refine M.ind (fun _ e=>nomatch e) (fun x z u fp r e=>?_) (fun l ih x u fp r e=>?_) (fun l x u fp r e=>?_) (fun l ih x u fp r e=>?_) (fun c fs ih x u fp r e=>?_) (fun fs _ x u fp _ e=>nomatch e)
    (fun r e=>?_) (fun x l hx hl xs us fp r e=>?_) (fun r e=>?_) (fun n x l hx hl xs us fp r e=>?_)
  · cases e;exact r.2.stay (Stay.fz (O:=[]))
  · exact oM e fun ys hy e=>e▸r.tup_e fun a vs h1 h2 h3 h4=>⟨a,vs,rfl,.inl h1,h2,i6 hy▸h3,ih h4 hy⟩
  · cases e;exact r.lst_e (R:=fun u fp=>aV C (y.fz fp) u (.lst l)) fun a vs h2 h3 h4=>⟨a,vs,rfl,.inr (.head _),h2,h3,h4.stay (Stay.fz (O:=[]))⟩
  · exact oM e fun ys hy e=>e▸r.lstM_e (R:=fun u fp=>aV C (y.fz fp) u (.lst ys)) fun a vs f h2 h3 h4=>⟨a,vs,rfl,.inr (.head _),h2,i6 hy▸h3,(ih h4 hy).stay (Stay.fzs (O:=[]) fun _=>.tail _)⟩
  · exact oM e fun ys hy e=>e▸r.obj_e (R:=fun u fp=>aV C (y.fz fp) u (.obj c ys)) fun a d kvs f h2 h3=>⟨a,d,kvs,rfl,.inr (.head _),.inr (.tail _ (.head _)),h2,(aV.map false (Stay.fzs (O:=[]) fun _ hb=>.tail _ (.tail _ hb)).all).2.2 ys (ih h3 hy) nofun⟩
  · cases e;exact r.1
  · exact oB e fun z hz e=>oM e fun ys hy e=>e▸r.cons_e (R:=fun us fp=>al C (y.fz fp) us (z::ys)) fun u ws f g h1 h2=>⟨u,ws,rfl,(hx h1 hz).stay (Stay.fzs (O:=[]) fun _=>List.mem_append_left _),(hl h2 hy).stay (Stay.fzs (O:=[]) fun _=>List.mem_append_right _)⟩
  · cases e;exact r.1
  · exact oB e fun z hz e=>oM e fun ys hy e=>e▸r.cons_e (R:=fun us fp=>ei C (y.fz fp) us ((n,z)::ys)) fun u ws f g h1 h2=>⟨u,ws,rfl,(hx h1 hz).stay (Stay.fzs (O:=[]) fun _=>List.mem_append_left _),(aV.map false (Stay.fzs (O:=[]) fun _=>List.mem_append_right _).all).2.2 ys (hl h2 hy) nofun⟩
theorem ag.frz{m:M}{x:V}(r:ag C y u m fp)(e:m.toV=some x):aV C (y.fz fp) u x:=ag.frz_.1 m r e
theorem ag.each_:(∀m:M,∀{u fp},ag C y u m fp→∀b∈fp,∃o,y.h.get? b=some o∧o.cls≠.type "tuple")∧(∀l:List M,∀{us fp},aw C y us l fp→∀b∈fp,∃o,y.h.get? b=some o∧o.cls≠.type "tuple")∧
    (∀fs:List (String×M),∀{kvs fp},az C y kvs fs fp→∀b∈fp,∃o,y.h.get? b=some o∧o.cls≠.type "tuple"):=by
  have cons:∀{a:Addr} {f:List Addr} {o:Obj},y.h.get? a=some o→o.cls≠.type "tuple"→(∀b∈f,∃o,y.h.get? b=some o∧o.cls≠.type "tuple")→∀b∈a::f,∃o,y.h.get? b=some o∧o.cls≠.type "tuple":=by
    intro a f o h1 h2 h3 b hb
    rcases List.mem_cons.mp hb with rfl|hb
    · exact⟨o,h1,h2⟩
    · exact h3 b hb
  have app:∀{f g:List Addr},(∀b∈f,∃o,y.h.get? b=some o∧o.cls≠.type "tuple")→(∀b∈g,∃o,y.h.get? b=some o∧o.cls≠.type "tuple")→∀b∈f++g,∃o,y.h.get? b=some o∧o.cls≠.type "tuple":=fun h1 h2 b hb=>(List.mem_append.mp hb).elim (h1 b) (h2 b)
  have lst:∀{a:Addr} {vs:Array Value},y.h.PlainList a vs→∃o,y.h.get? a=some o∧o.cls≠.type "tuple":=fun⟨n,h⟩=>⟨_,h,show Value.type "list"≠Value.type "tuple" by decide⟩
  refine M.ind (fun r b hb=>by rw[show _=[]from r]at hb;cases hb) (fun x u fp r b hb=>by rw[r.1]at hb;cases hb) (fun l ih u fp r=>r.tup_e fun a vs h1 h2 h3 h4=>ih h4) (fun l u fp r=>?_) (fun l ih u fp r=>?_) (fun c fs ih u fp r=>?_) (fun fs ih u fp r=>?_)
    (fun r b hb=>by rw[r.2]at hb;cases hb) (fun x l hx hl us fp r=>?_) (fun r b hb=>by rw[r.2]at hb;cases hb) (fun n x l hx hl us fp r=>?_)
  · exact r.lst_e (R:=fun _ fp=>∀b∈fp,∃o,y.h.get? b=some o∧o.cls≠.type "tuple") fun a vs h2 h3 h4=>(lst h2).elim fun o h=>cons h.1 h.2 nofun
  · exact r.lstM_e (R:=fun _ fp=>∀b∈fp,∃o,y.h.get? b=some o∧o.cls≠.type "tuple") fun a vs f h2 h3 h4=>(lst h2).elim fun o h=>cons h.1 h.2 (ih h4)
  · refine r.obj_e (R:=fun _ fp=>∀b∈fp,∃o,y.h.get? b=some o∧o.cls≠.type "tuple") fun a d kvs f h2 h3=>?_
    obtain⟨A,es,n,_,e1,e2,_⟩:=h2
    exact cons e1 (by simp[instObj]) (cons e2 (show Value.type "dict"≠Value.type "tuple" by decide) (ih h3))
  · refine r.dct_e (R:=fun _ fp=>∀b∈fp,∃o,y.h.get? b=some o∧o.cls≠.type "tuple") fun a kvs f h2 h3=>?_
    obtain⟨o,es,ep,ho,q⟩:=h2
    exact cons ho (by rw[q.1.1];decide) (ih h3)
  · exact r.cons_e (R:=fun _ fp=>∀b∈fp,∃o,y.h.get? b=some o∧o.cls≠.type "tuple") fun u ws f g h1 h2=>app (hx h1) (hl h2)
  · exact r.cons_e (R:=fun _ fp=>∀b∈fp,∃o,y.h.get? b=some o∧o.cls≠.type "tuple") fun u ws f g h1 h2=>app (hx h1) (hl h2)
theorem ag.each{m:M}(r:ag C y u m fp):∀b∈fp,∃o,y.h.get? b=some o∧o.cls≠.type "tuple":=ag.each_.1 m r
end
end Mine.Internal
end
section
namespace Mine.Internal
open PySem PySem.W PyProof.Rows
inductive Tr where|n (i:Nat)|a (l r:Tr)
noncomputable def Tr.den(env:List (List Addr)):Tr→List Addr
  |.n i=>env.getD i []
  |.a l r=>l.den env++r.den env
noncomputable def Tr.ix:Tr→List Nat
  |.n i=>[i]
  |.a l r=>l.ix++r.ix
noncomputable abbrev t0:Tr:=.n 0
noncomputable abbrev t1:Tr:=.n 1
noncomputable abbrev t2:Tr:=.n 2
noncomputable abbrev t3:Tr:=.n 3
noncomputable abbrev t4:Tr:=.n 4
noncomputable abbrev t5:Tr:=.n 5
noncomputable abbrev t6:Tr:=.n 6
noncomputable abbrev t7:Tr:=.n 7
theorem Tr.den_eq(env:List (List Addr))(t:Tr):t.den env=t.ix.flatMap (env.getD · []):=by
  induction t with
  |n i=>exact(List.append_nil _).symm
  |a l r h1 h2=>exact(congr (congrArg _ h1) h2).trans List.flatMap_append.symm
theorem pm(env:List (List Addr))(s t:Tr)(h:s.ix.isPerm t.ix=true):(s.den env).Perm (t.den env):=by
  rw[s.den_eq,t.den_eq]
  exact(List.isPerm_iff.mp h).flatMap_right _
noncomputable def nN(s s':Shared):Prop:=∃h tk,s'={ s with heap:=h,toks:=tk }
theorem nN.refl(s:Shared):nN s s:=⟨s.heap,s.toks,rfl⟩
theorem nN.trans{s s' s'':Shared}(a:nN s s')(b:nN s' s''):nN s s'':=by
  obtain⟨h,t,rfl⟩:=a
  obtain⟨h',t',rfl⟩:=b
  exact⟨h',t',rfl⟩
theorem nd{α:Type}{l r:List α}(h:(l++r).Nodup){b:α}(h1:b∈l)(h2:b∈r){P:Prop}:P:=absurd rfl ((List.nodup_append.mp h).2.2 b h1 b h2)
theorem eL{y:Y}{b:Addr}{P:Prop}(h:y.no b)(h':y.has b):P:=h'.elim fun o e=>nomatch (show none=some o from h.symm.trans e)
theorem Af(y:Y)(b:Addr):y.has b∨y.no b:=by
  unfold Y.has Y.no
  cases y.h.get? b with
  |none=>exact .inr rfl
  |some o=>exact .inl ⟨o,rfl⟩
theorem Kp.has{y y':Y}{b:Addr}(k:Kp y y' b)(h:y.has b):y'.has b:=h.elim fun o e=>⟨o,k o e⟩
structure HT (C:Cx) (y:Y) (O:List Addr):Prop where
  stays:∀b o,C.h₀.get? b=some o→y.h.get? b=some o
  nodup:O.Nodup
  own:∀b∈O,¬y.F b∧C.h₀.get? b=none∧y.has b
  old:∀b,y.F b→y.has b
  base':∀b o,C.h₀.get? b=some o→y.F b
section
variable {C:Cx} {y y' y'':Y} {O O':List Addr} {b:Addr}
theorem HT.perm(H:HT C y O)(p:O.Perm O'):HT C y O':=⟨H.stays,p.nodup_iff.mp H.nodup,fun b hb=>H.own b (p.mem_iff.mpr hb),H.old,H.base'⟩
theorem HT.sub(H:HT C y O)(p:O'.Sublist O):HT C y O':=⟨H.stays,H.nodup.sublist p,fun b hb=>H.own b (p.subset hb),H.old,H.base'⟩
theorem HT.nF(H:HT C y O)(hb:b∈O)(hF:y.F b){P:Prop}:P:=absurd hF (H.own b hb).1
theorem HT.base{o:Obj}(H:HT C y O)(e:C.h₀.get? b=some o):b∉O:=fun hb=>nomatch (show none=some o from(H.own b hb).2.1.symm.trans e)
theorem HT.new(H:HT C y O)(e:y.no b):b∉O∧¬y.F b∧C.h₀.get? b=none:=by
  refine⟨fun hb=>eL e (H.own b hb).2.2,fun hb=>eL e (H.old b hb),?_⟩
  cases q:C.h₀.get? b with
  |none=>rfl
  |some o=>exact eL e ⟨o,H.stays b o q⟩
theorem HT.re(H:HT C y O)(h:y'.s=y.s)(hF:y'.F=y.F):HT C y' O:=by
  obtain⟨s,F,ρ,os⟩:=y
  obtain⟨s',F',ρ',os'⟩:=y'
  cases h
  cases hF
  exact⟨H.stays,H.nodup,H.own,H.old,H.base'⟩
structure Mv (y y':Y) (D:List Addr):Prop where
  same:nN y.s y'.s
  keep:∀b,b∉D→Kp y y' b
  fsub:∀b,y.F b→y'.F b
theorem Mv.refl(y:Y)(D:List Addr):Mv y y D:=⟨.refl _,fun _ _ _ e=>e,fun _ e=>e⟩
theorem Mv.trans{D D₁:List Addr}(a:Mv y y' D)(b:Mv y' y'' D₁)(hD:∀x∈D₁,x∈D∨y.no x):Mv y y'' D:=
  ⟨a.same.trans b.same,fun x hx o e=>b.keep x (fun h1=>(hD x h1).elim hx fun h2=>eL h2 ⟨o,e⟩) o (a.keep x hx o e),fun x e=>b.fsub x (a.fsub x e)⟩
theorem Mv.trans0{D:List Addr}(a:Mv y y' D)(b:Mv y' y'' []):Mv y y'' D:=a.trans b nofun
theorem Mv.wide{D D':List Addr}(a:Mv y y' D)(h:∀x∈D,x∈D'):Mv y y' D':=⟨a.same,fun b hb=>a.keep b fun q=>hb (h b q),a.fsub⟩
theorem Mv.wide0{D':List Addr}(a:Mv y y' []):Mv y y' D':=a.wide nofun
theorem Mv.stay{D O:List Addr}(a:Mv y y' D)(H:HT C y (D++O)):Stay y y' O:=
  ⟨fun b hf=>a.keep b fun hb=>H.nF (List.mem_append_left _ hb) hf,fun b ho=>a.keep b fun hb=>nd H.nodup hb ho,a.fsub⟩
theorem Mv.stay0{O:List Addr}(a:Mv y y' []):Stay y y' O:=⟨fun b _=>a.keep b nofun,fun b _=>a.keep b nofun,a.fsub⟩
theorem Mv.old{D:List Addr}(a:Mv y y' D)(h:y'.no b):b∈D∨y.no b:=
  (Af y b).elim (fun q=>.inl (Classical.byContradiction fun hb=>eL h ((a.keep b hb).has q))) .inr
theorem Mv.up{D:List Addr}(h:y'.s=y.s)(hF:∀b,y.F b→y'.F b):Mv y y' D:=⟨h▸.refl _,fun _ _=>.of h,hF⟩
theorem Mv.from{D:List Addr}(a:Mv y y' D)(h:y''.s=y'.s)(hF:y''.F=y'.F):Mv y y'' D:=a.trans0 (.up h fun _ e=>hF▸e)
end
structure Act where
  env:Env
  vs:List String
  fr:List Addr
  n1:Nat
  cs:Option (Nat×Nat)
  pin:List (Nat×Value)
noncomputable def Act.reads(a:Act)(i:Nat):Prop:=match a.cs with
  |none=>i<a.n1
  |some (c0,c1)=>c0≤i∧i<c1
noncomputable def Act.At(a:Act)(y:Y)(i:Nat)(x:ae)(u:Value):Prop:=
  (a.env.kindOf x=some .cell→i<a.n1→∃c,a.env.cells.lookup x=some c∧y.h.IsCell c (some u))∧
  (a.env.kindOf x=some .local→a.reads i→∃m,y.h.Ns a.env.locals m∧m x=some u)
structure EnvOk (a:Act):Prop where
  kind:a.env.scope.kind=.function
  globals:a.env.globals=mainGlobals
  builtins:a.env.builtins=builtinsNs
  locals:a.env.locals∈a.fr
  cells:∀x c,a.env.cells.lookup x=some c→c∈a.fr
  has:∀(i:Nat) (x:String),i<a.n1→a.vs[i]?=some x→a.env.kindOf (Str.ofString x)=some .cell→∃c,a.env.cells.lookup (Str.ofString x)=some c
  apart:∀x y c,a.env.cells.lookup x=some c→a.env.cells.lookup y=some c→x=y
  off:∀x c,a.env.cells.lookup x=some c→c≠a.env.locals
  inj:∀i j x,i<a.n1→j<a.n1→a.vs[i]?=some x→a.vs[j]?=some x→i=j
  injc:∀c0 c1,a.cs=some (c0,c1)→∀i j x,c0≤i→i<c1→c0≤j→j<c1→a.vs[i]?=some x→a.vs[j]?=some x→i=j
  pin:∀q∈a.pin,q.1<a.n1
structure Kx where
  a:Act
  A:Around
  X:List Addr
  hE:EnvOk a
noncomputable def Kx.on(k:Kx)(N:List Addr):Kx:=⟨k.a,k.A,N++k.X,k.hE⟩
structure Slot (C:Cx) (a:Act) (y:Y) (i:Nat) (m:M) (x:String) (u:Value) (fp:List Addr):Prop where
  v:a.vs[i]?=some x
  ρ:y.ρ[i]?=some u
  o:y.os[i]?=some fp
  at_:a.At y i (Str.ofString x) u
  rep:ag C y u m fp
structure Vars (C:Cx) (a:Act) (y:Y) (σ:List M):Prop where
  lenR:y.ρ.length=σ.length
  lenO:y.os.length=σ.length
  lenV:a.vs.length=σ.length
  ns:∃m,y.h.Ns a.env.locals m
  cell:∀x c,a.env.cells.lookup x=some c→∃u,y.h.IsCell c u
  at_:∀(i:Nat) (m:M),σ[i]?=some m→m≠M.undef→∃x u fp,Slot C a y i m x u fp
  und:∀(i:Nat),σ[i]?=some M.undef→y.os[i]?=some []
  pin:∀q∈a.pin,y.ρ[q.1]?=some q.2
structure St (C:Cx) (k:Kx) (y:Y) (σ:List M):Prop where
  ht:HT C y (k.a.fr++(y.os.flatten++k.X))
  vars:Vars C k.a y σ
section
variable {C:Cx} {k:Kx} {y y' y'':Y} {σ σ₁ σ':List M} {N N':List Addr}
theorem bW{os:List (List Addr)}{i:Nat}{fp:List Addr}(h:os[i]?=some fp){b:Addr}(hb:b∈fp):b∈os.flatten:=
  List.mem_flatten.mpr ⟨fp,List.mem_of_getElem? h,hb⟩
theorem Act.At.stay{a:Act}{i:Nat}{x:ae}{u:Value}(hE:EnvOk a)(h:a.At y i x u)(T:∀b∈a.fr,Kp y y' b):a.At y' i x u:=by
  refine⟨fun k l=>?_,fun k l=>?_⟩
  · obtain⟨c,hc,o,ho,q⟩:=h.1 k l;exact⟨c,hc,o,T c (hE.cells _ _ hc) o ho,q⟩
  · obtain⟨m,⟨o,es,ep,ho,q⟩,hx⟩:=h.2 k l;exact⟨m,⟨o,es,ep,T _ hE.locals o ho,q⟩,hx⟩
theorem Slot.stay{a:Act}{i:Nat}{m:M}{x:String}{u:Value}{fp:List Addr}(hE:EnvOk a)(S:Slot C a y i m x u fp)(T:Stay y y' (a.fr++fp))(hρ:y'.ρ=y.ρ)(ho:y'.os=y.os):Slot C a y' i m x u fp:=
  ⟨S.v,hρ▸S.ρ,ho▸S.o,S.at_.stay hE fun b hb=>T.own b (List.mem_append_left _ hb),S.rep.stay (T.sub fun _ hb=>List.mem_append_right _ hb)⟩
theorem Vars.stay{a:Act}(hE:EnvOk a)(V:Vars C a y σ)(T:Stay y y' (a.fr++y.os.flatten))(hρ:y'.ρ=y.ρ)(ho:y'.os=y.os):Vars C a y' σ:=by
  refine⟨hρ▸V.lenR,ho▸V.lenO,V.lenV,?_,fun x c e=>?_,fun i m e hne=>?_,ho▸V.und,hρ▸V.pin⟩
  · obtain⟨m,o,es,ep,ho,q⟩:=V.ns;exact⟨m,o,es,ep,T.own _ (List.mem_append_left _ hE.locals) o ho,q⟩
  · obtain⟨u,o,ho,q⟩:=V.cell x c e;exact⟨u,o,T.own _ (List.mem_append_left _ (hE.cells x c e)) o ho,q⟩
  · obtain⟨x,u,fp,S⟩:=V.at_ i m e hne
    exact⟨x,u,fp,S.stay hE (T.sub fun b hb=>(List.mem_append.mp hb).elim (List.mem_append_left _) fun q=>List.mem_append_right _ (bW S.o q)) hρ ho⟩
theorem Vars.keep{a:Act}(hE:EnvOk a)(V:Vars C a y σ)(m:Mv y (y.tf y'.s y'.F) []):Vars C a (y.tf y'.s y'.F) σ:=V.stay hE m.stay0 rfl rfl
noncomputable def Y.dr(y:Y):Bool→List Addr
  |true=>[]
  |false=>y.os.flatten
theorem iC{c:Bool}{b:Addr}(h:b∈y.dr c):b∈y.os.flatten:=by
  cases c with
  |true=>cases h
  |false=>exact h
structure Run (C:Cx) (k:Kx) (y:Y) (σ:List M) (c:Bool) (y':Y) (σ':List M) (N:List Addr):Prop where
  mv:Mv y y' (y.dr c)
  st:St C (k.on N) y' σ'
  calm:c=true→σ'=σ∧y'.ρ=y.ρ∧y'.os=y.os
  rho:∀i,i<k.a.n1→y'.ρ[i]?=y.ρ[i]?
  dirt:∀b,b∈y'.os.flatten∨b∈N→b∈y.os.flatten∨y.no b
  und:∀i:Nat,σ[i]?=some M.undef→σ'[i]?=some M.undef
theorem St.grow(S:St C k y σ)(m:Mv y y' [])(hρ:y'.ρ=y.ρ)(ho:y'.os=y.os)(hF:∀b,y'.F b→y.F b∨(y.no b∧b∉N∧y'.has b))(hN:N.Nodup)(hN':∀b∈N,y.no b∧y'.has b):St C (k.on N) y' σ:=by
  refine⟨HT.perm (O:=N++(k.a.fr++(y'.os.flatten++k.X))) ⟨fun b o e=>m.keep b nofun o (S.ht.stays b o e),?_,fun b hb=>?_,fun b hb=>?_,fun b o e=>m.fsub b (S.ht.base' b o e)⟩ (pm [N,k.a.fr,y'.os.flatten,k.X] (.a t0 (.a t1 (.a t2 t3))) (.a t1 (.a t2 (.a t0 t3))) rfl),S.vars.stay k.hE m.stay0 hρ ho⟩
  · rw[ho]
    exact List.nodup_append.mpr ⟨hN,S.ht.nodup,fun x hx z hz e=>(S.ht.new (hN' x hx).1).1 (e▸hz)⟩
  · rw[ho]at hb
    rcases List.mem_append.mp hb with hb|hb
    · obtain⟨n1,n2,n3⟩:=S.ht.new (hN' b hb).1
      exact⟨fun q=>(hF b q).elim n2 fun q=>q.2.1 hb,n3,(hN' b hb).2⟩
    · obtain⟨h1,h2,h3⟩:=S.ht.own b hb
      exact⟨fun q=>(hF b q).elim h1 fun q=>eL q.1 h3,h2,(m.keep b nofun).has h3⟩
  · exact(hF b hb).elim (fun q=>(m.keep b nofun).has (S.ht.old b q)) fun q=>q.2.2
theorem St.drop(S:St C (k.on N) y σ)(h:N'.Sublist N):St C (k.on N') y σ:=⟨S.ht.sub (.append (.refl _) (.append (.refl _) (.append h (.refl _)))),S.vars⟩
theorem St.perm(S:St C (k.on N) y σ)(h:N.Perm N'):St C (k.on N') y σ:=⟨S.ht.perm (.append_left _ (.append_left _ (.append_right _ h))),S.vars⟩
theorem Run.refl(S:St C k y σ)(c:Bool):Run C k y σ c y σ []:=⟨.refl ..,S,fun _=>⟨rfl,rfl,rfl⟩,fun _ _=>rfl,fun _ h=>h.elim .inl nofun,fun _ h=>h⟩
theorem Run.mono{c c':Bool}(R:Run C k y σ c y' σ' N)(h:c'=true→c=true):Run C k y σ c' y' σ' N:=
  ⟨R.mv.wide fun x hx=>by
    cases c' with
    |true=>exact h rfl▸hx
    |false=>exact iC hx,R.st,fun q=>R.calm (h q),R.rho,R.dirt,R.und⟩
theorem Run.dr{c c':Bool}{x:Addr}(R:Run C k y σ c y' σ' N)(hx:x∈y'.dr c'):x∈y.dr (c&&c')∨y.no x:=by
  cases c' with
  |true=>cases hx
  |false=>
    cases c with
    |true=>exact .inl (show x∈y.os.flatten from(R.calm rfl).2.2▸hx)
    |false=>exact R.dirt x (.inl hx)
theorem Run.old{c:Bool}{b:Addr}(R:Run C k y σ c y' σ' N)(h:y'.no b):b∈y.os.flatten∨y.no b:=(R.mv.old h).imp iC id
theorem Run.trans{c₁ c₂:Bool}{N₁ N₂:List Addr}(R₁:Run C k y σ c₁ y' σ₁ N₁)(R₂:Run C (k.on N₁) y' σ₁ c₂ y'' σ' N₂):Run C k y σ (c₁&&c₂) y'' σ' (N₂++N₁):=by
  refine⟨(R₁.mv.wide fun x hx=>?_).trans R₂.mv fun x=>R₁.dr,?_,fun h=>?_,fun i hi=>(R₂.rho i hi).trans (R₁.rho i hi),fun b hb=>?_,fun i h=>R₂.und i (R₁.und i h)⟩
  · cases c₁ with
    |true=>cases hx
    |false=>exact hx
  · exact⟨R₂.st.ht.perm (pm [k.a.fr,y''.os.flatten,N₂,N₁,k.X] (.a t0 (.a t1 (.a t2 (.a t3 t4)))) (.a t0 (.a t1 (.a (.a t2 t3) t4))) rfl),R₂.st.vars⟩
  · obtain⟨h1,h2⟩:=oA h And.intro
    obtain⟨a1,a2,a3⟩:=R₁.calm h1
    obtain⟨b1,b2,b3⟩:=R₂.calm h2
    exact⟨b1.trans a1,b2.trans a2,b3.trans a3⟩
  · refine hb.elim (fun hb=>(R₂.dirt b (.inl hb)).elim (fun q=>R₁.dirt b (.inl q)) R₁.old) fun hb=>(List.mem_append.mp hb).elim (fun hb=>(R₂.dirt b (.inr hb)).elim (fun q=>R₁.dirt b (.inl q)) R₁.old) fun hb=>R₁.dirt b (.inr hb)
theorem Run.drop{c:Bool}(R:Run C k y σ c y' σ' N)(h:N'.Sublist N):Run C k y σ c y' σ' N':=⟨R.mv,R.st.drop h,R.calm,R.rho,fun b hb=>R.dirt b (hb.imp id (h.subset ·)),R.und⟩
theorem Run.drop0{c:Bool}(R:Run C k y σ c y' σ' N):Run C k y σ c y' σ' []:=R.drop (List.nil_sublist _)
theorem Run.perm{c:Bool}(R:Run C k y σ c y' σ' N)(h:N.Perm N'):Run C k y σ c y' σ' N':=⟨R.mv,R.st.perm h,R.calm,R.rho,fun b hb=>R.dirt b (hb.imp id (h.mem_iff.mpr ·)),R.und⟩
theorem Run.then0{c₁ c₂ c:Bool}{N:List Addr}(R₁:Run C k y σ c₁ y' σ₁ [])(R₂:Run C k y' σ₁ c₂ y'' σ' N)(h:c=true→(c₁&&c₂)=true):Run C k y σ c y'' σ' N:=by
  have R:=(R₁.trans (k:=k) R₂).mono h
  rwa[List.append_nil]at R
theorem Run.grow{c:Bool}(R:Run C k y σ c y' σ' N)(m:Mv y' y'' [])(hρ:y''.ρ=y'.ρ)(ho:y''.os=y'.os)(hF:∀b,y''.F b→y'.F b∨(y'.no b∧b∉N'∧y''.has b))(hN:N'.Nodup)(hN':∀b∈N',y'.no b∧y''.has b):Run C k y σ c y'' σ' (N'++N):=by
  have S:=R.st.grow m hρ ho hF hN hN'
  refine⟨R.mv.trans0 m,⟨S.ht.perm (pm [k.a.fr,y''.os.flatten,N',N,k.X] (.a t0 (.a t1 (.a t2 (.a t3 t4)))) (.a t0 (.a t1 (.a (.a t2 t3) t4))) rfl),S.vars⟩,?_,hρ▸R.rho,fun b hb=>?_,R.und⟩
  · rw[hρ,ho];exact R.calm
  · rw[ho]at hb
    exact hb.elim (fun hb=>R.dirt b (.inl hb)) fun hb=>(List.mem_append.mp hb).elim (fun hb=>R.old (hN' b hb).1) fun hb=>R.dirt b (.inr hb)
theorem Run.still{c:Bool}{s:Shared}(R:Run C k y σ c y' σ' N)(m:Mv y' (y'.to s) []):Run C k y σ c (y'.to s) σ' N:=
  R.grow (N':=[]) m rfl rfl (fun _ h=>.inl h) .nil nofun
theorem Run.new1{c:Bool}{s:Shared}{b:Addr}(R:Run C k y σ c y' σ' N)(m:Mv y' (y'.to s) [])(h1:y'.no b)(h2:(y'.to s).has b):Run C k y σ c (y'.to s) σ' (b::N):=
  R.grow (N':=[b]) m rfl rfl (fun _ h=>.inl h) (List.nodup_cons.mpr ⟨nofun,.nil⟩) fun x hx=>by rw[List.mem_singleton.mp hx];exact⟨h1,h2⟩
theorem HT.freeze{f O:List Addr}(H:HT C y (f++O)):HT C (y.fz f) O:=by
  refine⟨H.stays,(List.nodup_append.mp H.nodup).2.1,fun b hb=>?_,fun b hb=>hb.elim (H.old b) fun q=>(H.own b (List.mem_append_left _ q)).2.2,fun b o e=>.inl (H.base' b o e)⟩
  obtain⟨h1,h2,h3⟩:=H.own b (List.mem_append_right _ hb)
  exact⟨fun q=>q.elim h1 fun q=>nd H.nodup q hb,h2,h3⟩
theorem St.freeze{f:List Addr}(S:St C (k.on (f++N)) y σ):St C (k.on N) (y.fz f) σ:=
  ⟨(S.ht.perm (pm [k.a.fr,y.os.flatten,f,N,k.X] (.a t0 (.a t1 (.a (.a t2 t3) t4))) (.a t2 (.a t0 (.a t1 (.a t3 t4)))) rfl)).freeze,S.vars.stay k.hE Stay.fz rfl rfl⟩
theorem Run.freeze{c:Bool}{f:List Addr}(R:Run C k y σ c y' σ' (f++N)):Run C k y σ c (y'.fz f) σ' N:=
  ⟨⟨R.mv.same,R.mv.keep,fun b hb=>.inl (R.mv.fsub b hb)⟩,R.st.freeze,R.calm,R.rho,fun b hb=>R.dirt b (hb.imp id (List.mem_append_right _ ·)),R.und⟩
theorem Run.stay{c:Bool}{fp:List Addr}(R:Run C k y σ c y' σ' N)(S:St C k y σ)(h:c=true∨∀b∈fp,b∈k.X):Stay y y' fp:=by
  cases c with
  |true=>exact R.mv.stay0
  |false=>exact(R.mv.stay (C:=C) (O:=k.X) (S.ht.sub (List.sublist_append_right _ _))).sub fun b hb=>(h.resolve_left Bool.false_ne_true) b hb
end
end Mine.Internal
end
section
namespace Mine.Internal
open PySem PySem.W PyProof.Rows
structure Sx where
  vs:List String
  names:List (ae×NameKind)
  n1:Nat
  cs:Option (Nat×Nat)
  pin:List Nat
noncomputable def Sx.reads(x:Sx)(i:Nat):Bool:=match x.cs with
  |none=>decide (i<x.n1)
  |some (c0,c1)=>decide (c0≤i)&&decide (i<c1)
noncomputable def Sx.isVar(x:Sx)(i:Nat)(n:ae):Bool:=(match x.vs[i]? with|some s=>decide (Str.ofString s=n)|none=>false)&&
  (match x.names.lookup n with|some .cell=>decide (i<x.n1)|some .local=>x.reads i|_=>false)&&!decide (n=("__debug__":ae))
noncomputable def Sx.isSt(x:Sx)(i:Nat)(n:ae):Bool:=x.isVar i n&&!x.pin.contains i
noncomputable def Sx.isGlob(x:Sx)(g:String)(n:ae):Bool:=decide (Str.ofString g=n)&&decide (x.names.lookup n=some .globalImplicit)&&!decide (n=("__debug__":ae))
noncomputable def Act.sx(a:Act):Sx:=⟨a.vs,a.env.scope.names,a.n1,a.cs,a.pin.map (·.1)⟩
noncomputable def Ag:Op→Operator
  |.add=>.Add|.sub=>.Sub|.mul=>.Mult|.fdiv=>.FloorDiv|.mod=>.Mod|.pow=>.Pow
noncomputable def aY:COp→CmpOp
  |.eq=>.Eq|.ne=>.NotEq|.lt=>.Lt|.le=>.LtE|.gt=>.Gt|.ge=>.GtE|.is=>.Is|.isn=>.IsNot
noncomputable def ub(out:List (ae×NameKind))(names:List (ae×NameKind)):List (ae×NameKind):=
  names.map fun(n,k)=>if k==.free&&out.lookup n==some .cell then(n,.cell)else(n,k)
noncomputable def bk:List String:=["cells","is_wrapped","size","first","begins","is_whole","columns","lines","row","column","is_waiting","spots"]
noncomputable def gK:List String:=["erased_pen","blank_cell","is_blank","is_plain_blank","line_blanks","right_half","line_slice","line_of","reflow_used","reflow_begins_wide","reflow_part","reflow_goes_on","logical_of","cut_with_places","reflow_place","reflow_line",
  "_law_take","_law_bare","_law_line","_law_goes_on","_law_is_free","_law_told","_law_laid","_law_other_size","_law_cursor_in","_law_together","_law_cut","_law_seen","_law_rest","law"]
mutual
noncomputable def P.stores:P→List Nat
  |.var i=>[i]
  |.tup l=>P.storess l
noncomputable def P.storess:List P→List Nat
  |[]=>[]
  |t::r=>t.stores++P.storess r
end
mutual
noncomputable def P.lo:P→Nat
  |.var i=>i
  |.tup l=>P.los l
noncomputable def P.los:List P→Nat
  |[]=>1000000
  |p::r=>min p.lo (P.los r)
end
mutual
noncomputable def P.hi:P→Nat
  |.var i=>i+1
  |.tup l=>P.his l
noncomputable def P.his:List P→Nat
  |[]=>0
  |p::r=>max p.hi (P.his r)
end
mutual
noncomputable def eM(x:Sx):P→Expr→Bool
  |.var i,p=>on 1 (vw p) fun n=>x.isSt i n
  |.tup l,p=>on 10 (vw p) fun es=>decide (l.length≤10)&&gL x l es
noncomputable def gL(x:Sx):List P→List Expr→Bool
  |[],ps=>ps.isEmpty
  |p::r,ps=>match ps with
    |[]=>false
    |e::q=>eM x p e&&gL x r q
end
noncomputable def Sx.isCell(x:Sx)(n:ae):Bool:=decide (x.names.lookup n=some .cell)&&(List.range x.n1).any fun i=>match x.vs[i]? with|some s=>decide (Str.ofString s=n)|none=>false
noncomputable def lH:Expr→Bool
  |.Set _ _ _=>true
  |_=>false
noncomputable def E.isComp:E→Bool
  |.comp _ _ _ _=>true
  |_=>false
noncomputable def C4(e:E):Expr→Bool
  |.ListComp _ _ _ _=>e.isComp
  |.SetComp _ _ _ _=>false
  |.DictComp _ _ _ _ _=>false
  |_=>true
noncomputable def uc(v:Expr):Bool:=on 10 (vw v) fun _=>true
noncomputable def qS(e:E)(u p:Expr):Bool:=C4 e p&&(!uc u||!uc p||on 10 (vw p) fun vs=>vs.all (foldedForSure 8)||!(vs.all (constantsAlone 8)))
noncomputable def sB:Src→P→Bool
  |.rng _ _,p=>(match p with|.var _=>true|.tup _=>false)
  |.it _,_=>true
  |_,p=>(match p with|.var _=>false|.tup _=>true)
noncomputable def a_(v:Expr):Bool:=on 13 (vw v) fun _=>true
noncomputable def mK(v:Expr):Bool:=on 1 (vw v) fun _=>true
noncomputable def gg(p:Expr)(f:ae→List Expr→Bool):Bool:=on 13 (vw p) fun q=>on 1 (vw q.1) fun n=>q.2.2.1.isEmpty&&f n q.2.1
noncomputable def jn(l:List Expr)(f:Expr→Bool):Bool:=match l with|[e]=>f e|_=>false
noncomputable def ud(l:List Expr)(f:Expr→Expr→Bool):Bool:=match l with|[d,e]=>f d e|_=>false
noncomputable def mL(l:List Expr)(f:Expr→Bool)(g:Expr→Expr→Bool):Bool:=match l with|[e]=>f e|[d,e]=>g d e|_=>false
noncomputable def zo:UnaryOp→Bool|.Not=>true|_=>false
noncomputable def ue:UnaryOp→Bool|.USub=>true|_=>false
noncomputable def qT:BoolOp→Bool|.And=>true|_=>false
noncomputable def C5:Const→Option Int|.int i=>some i|_=>none
noncomputable def Ah:Const→Option ae|.str i=>some i|_=>none
noncomputable def zp:Const→Option Bool|.bool i=>some i|_=>none
noncomputable def zq:Const→Bool|.none=>true|_=>false
noncomputable def li{α:Type}(o:Option α)(f:α→Bool):Bool:=match o with|some x=>f x|none=>false
noncomputable def Ai(x:Sx)(p:P)(sc:Scope)(it:Expr):Bool:=decide (sc.kind=.function)&&x.cs.isNone&&(sc.names.all fun y=>decide (sc.names.lookup y.1=some y.2)&&decide (y.2≠.cell)&&(decide (y.2≠.free)||x.isCell y.1))&&!lH it&&decide (((x.vs.take p.hi).drop p.lo).Nodup)&&((List.range p.hi).all fun i=>decide (i<p.lo)||p.stores.contains i)&&decide (p.hi≤x.vs.length)
noncomputable def jX(x:Sx)(p:P)(sc:Scope):Sx:=⟨x.vs,ub x.names sc.names,x.n1,some (p.lo,p.hi),[]⟩
noncomputable def C6(l:List Comprehension)(f:Expr→Expr→List Expr→Bool):Bool:=match l with|[c]=>decide (c.is_async=0)&&f c.target c.iter c.ifs|_=>false
mutual
noncomputable def af(io:String→List Bool)(x:Sx):E→Expr→Bool
  |.none,p=>on 0 (vw p) zq
  |.bool b,p=>on 0 (vw p) fun c=>li (zp c) (b== ·)
  |.int i,p=>on 0 (vw p) fun c=>li (C5 c) fun j=>decide (i=j)
  |.str s,p=>on 0 (vw p) fun c=>li (Ah c) fun t=>decide (Str.ofString s=t)
  |.var i,p=>on 1 (vw p) fun n=>x.isVar i n
  |.mov i,p=>on 1 (vw p) fun n=>x.isVar i n&&x.cs.isNone
  |.glob g,p=>on 1 (vw p) fun n=>x.isGlob g n
  |.attr e a,p=>on 2 (vw p) fun q=>!a_ q.1&&af io x e q.1&&decide (Str.ofString a=q.2.1)&&bk.contains a
  |.sub e i,p=>on 3 (vw p) fun q=>af io x e q.1&&af io x i q.2
  |.slc e lo hi,p=>on 3 (vw p) fun q=>on 4 (vw q.2) fun t=>t.2.2.isNone&&mK q.1&&af io x e q.1&&lj io x lo t.1&&lj io x hi t.2.1
  |.bin op a b,p=>on 5 (vw p) fun q=>decide (Ag op=q.2.1)&&af io x a q.1&&af io x b q.2.2
  |.neg a,p=>on 6 (vw p) fun q=>ue q.1&&af io x a q.2
  |.not a,p=>on 6 (vw p) fun q=>zo q.1&&af io x a q.2
  |.cmp op a b,p=>on 7 (vw p) fun q=>decide (q.2.1=[aY op])&&af io x a q.1&&jn q.2.2 fun r=>af io x b r
  |.cmp2 o1 o2 a b c,p=>on 7 (vw p) fun q=>decide (q.2.1=[aY o1,aY o2])&&af io x a q.1&&ud q.2.2 fun r r'=>af io x b r&&af io x c r'
  |.and l,p=>on 8 (vw p) fun q=>qT q.1&&a0 io x l q.2
  |.or l,p=>on 8 (vw p) fun q=>!qT q.1&&a0 io x l q.2
  |.ite c a b,p=>on 9 (vw p) fun q=>af io x c q.1&&af io x a q.2.1&&af io x b q.2.2
  |.frz e,p=>(match p with|.Slice _ _ _ _=>false|.Starred _ _=>false|_=>true)&&af io x e p
  |.tup l,p=>on 10 (vw p) fun es=>decide (l.length≤100)&&a0 io x l es
  |.lst l,p=>on 11 (vw p) fun es=>decide (l.length≤100)&&a0 io x l es
  |.dct l,p=>on 12 (vw p) fun q=>decide (1≤l.length)&&decide (l.length≤10)&&decide ((l.map (·.1)).Nodup)&&nO io x l q.1 q.2
  |.call f l,p=>gg p fun n es=>x.isGlob f n&&gK.contains f&&decide (l.length≤10)&&a0 io x l es
  |.bi f l,p=>gg p fun n es=>x.isGlob f n&&["len","max","min","int","list"].contains f&&a0 io x l es
  |.meth e c m k l,p=>on 13 (vw p) fun q=>on 2 (vw q.1) fun t=>q.2.2.1.isEmpty&&!a_ t.1&&decide (Str.ofString m=t.2.1)&&decide (k=c++"."++m)&&decide (l.length≤10)&&(t.2.2.endLine==q.2.2.2.line)&&af io x e t.1&&a0 io x l q.2.1
  |.new c k l,p=>gg p fun n es=>x.isGlob c n&&decide (k=c++".__init__")&&decide (l.length≤10)&&a0 io x l es
  |.comp elt p s cond,p'=>on 14 (vw p') fun q=>C6 q.2.1 fun t it ifs=>Ai x p q.2.2 it&&dw io x s it&&sB s p&&decide (x.n1≤p.lo)&&eM (jX x p q.2.2) p t&&
        af io (jX x p q.2.2) elt q.1&&jY io (jX x p q.2.2) cond ifs
noncomputable def jY(io:String→List Bool)(x:Sx):Option E→List Expr→Bool
  |Option.none,ifs=>ifs.isEmpty
  |some c,ifs=>jn ifs fun i=>af io x c i
noncomputable def lj(io:String→List Bool)(x:Sx):Option E→Option Expr→Bool
  |Option.none,o=>o.isNone
  |some e,o=>match o with
    |some p=>af io x e p
    |Option.none=>false
noncomputable def a0(io:String→List Bool)(x:Sx):List E→List Expr→Bool
  |[],ps=>ps.isEmpty
  |e::r,ps=>match ps with
    |[]=>false
    |p::q=>af io x e p&&a0 io x r q
noncomputable def nO(io:String→List Bool)(x:Sx):List (String×E)→List (Option Expr)→List Expr→Bool
  |[],ks,vs=>ks.isEmpty&&vs.isEmpty
  |(n,e)::r,ks,vs=>match ks,vs with
    |some k::q,p::u=>(on 0 (vw k) fun c=>li (Ah c) fun t=>decide (Str.ofString n=t))&&af io x e p&&nO io x r q u
    |_,_=>false
noncomputable def dw(io:String→List Bool)(x:Sx):Src→Expr→Bool
  |.rng a b,p=>gg p fun n es=>x.isGlob "range" n&&mL es (fun e=>a.isNone&&af io x b e) fun d e=>lj io x a (some d)&&af io x b e
  |.enum a,p=>gg p fun n es=>x.isGlob "enumerate" n&&jn es fun e=>af io x a e
  |.zip a b,p=>gg p fun n es=>x.isGlob "zip" n&&ud es fun d e=>af io x a d&&af io x b e
  |.it a,e=>af io x a e
end
noncomputable def E.isStr:E→Bool
  |.str _=>true
  |_=>false
noncomputable def E.plainRoad:E→Bool
  |.var _=>true
  |.sub r k=>r.isVar&&k.isStr
  |_=>false
mutual
noncomputable def gM(io:String→List Bool)(x:Sx):T→Expr→Bool
  |.var i _,p=>on 1 (vw p) fun n=>x.isSt i n&&x.cs.isNone
  |.tup l,p=>on 10 (vw p) fun es=>decide (l.length≤10)&&ej io x l es
  |.attr o a,p=>on 2 (vw p) fun q=>af io x o q.1&&decide (Str.ofString a=q.2.1)&&bk.contains a
  |.sub o i,p=>on 3 (vw p) fun q=>af io x o q.1&&af io x i q.2
noncomputable def ej(io:String→List Bool)(x:Sx):List T→List Expr→Bool
  |[],ps=>ps.isEmpty
  |t::r,ps=>match ps with
    |[]=>false
    |e::q=>gM io x t e&&ej io x r q
end
noncomputable def mM(m:ae)(p:Stmt)(f:Expr→List Expr→Bool):Bool:=onS 1 (vwS p) fun c=>on 13 (vw c) fun q=>on 2 (vw q.1) fun t=>q.2.2.1.isEmpty&&decide (t.2.1=m)&&(t.2.2.endLine==q.2.2.2.line)&&f t.1 q.2.1
mutual
noncomputable def gN(io:String→List Bool)(x:Sx):S→Stmt→Bool
  |.asg t e,p=>onS 0 (vwS p) fun q=>jn q.1 fun u=>gM io x t u&&af io x e q.2&&qS e u q.2
  |.expr e,p=>onS 1 (vwS p) fun q=>af io x e q&&a_ q
  |.app q e _,p=>mM "append" p fun o es=>af io x q o&&jn es fun a=>af io x e a
  |.ext q e,p=>mM "extend" p fun o es=>af io x q o&&jn es fun a=>af io x e a
  |.pop q,p=>mM "pop" p fun o es=>af io x q o&&es.isEmpty
  |.ite c a b,p=>onS 2 (vwS p) fun q=>af io x c q.1&&bo io x a q.2.1&&bo io x b q.2.2
  |.whl c b,p=>onS 3 (vwS p) fun q=>q.2.2.isEmpty&&af io x c q.1&&bo io x b q.2.1
  |.for_ t s b,p=>onS 4 (vwS p) fun q=>q.2.2.2.isEmpty&&eM x t q.1&&sB s t&&!lH q.2.1&&dw io x s q.2.1&&bo io x b q.2.2.1
  |.ret e,p=>onS 5 (vwS p) fun q=>(match e with
    |Option.none=>q.isNone
    |some e=>li q fun p=>af io x e p)
  |.frz _,_=>false
noncomputable def bo(io:String→List Bool)(x:Sx):List S→List Stmt→Bool
  |[],ps=>ps.isEmpty
  |s::r,ps=>match s with
    |.frz p=>p.plainRoad&&bo io x r ps
    |s=>match ps with
      |p::q=>gN io x s p&&bo io x r q
      |[]=>false
end
-- names that the statements store
mutual
noncomputable def T.stores:T→List Nat
  |.var i _=>[i]
  |.tup l=>T.storess l
  |_=>[]
noncomputable def T.storess:List T→List Nat
  |[]=>[]
  |t::r=>t.stores++T.storess r
end
mutual
noncomputable def S.stores:S→List Nat
  |.asg t _=>t.stores
  |.ite _ a b=>S.storess a++S.storess b
  |.whl _ b=>S.storess b
  |.for_ p _ b=>p.stores++S.storess b
  |_=>[]
noncomputable def S.storess:List S→List Nat
  |[]=>[]
  |s::r=>s.stores++S.storess r
end
end Mine.Internal
end
section
namespace Mine.Internal
open PySem PySem.W PyProof.Rows
section
variable {io:String→List Bool} {x:Sx} {p:Expr}
theorem dec{q:Prop}[Decidable q](h:decide q=true):q:=of_decide_eq_true h
theorem a2_{a b:Bool}(h:(a&&b)=true):a=true∧b=true:=oA h .intro
theorem a3_{a b c:Bool}(h:(a&&b&&c)=true):a=true∧b=true∧c=true:=⟨(a2_ (a2_ h).1).1,(a2_ (a2_ h).1).2,(a2_ h).2⟩
theorem a4_{a b c d:Bool}(h:(a&&b&&c&&d)=true):a=true∧b=true∧c=true∧d=true:=⟨(a3_ (a2_ h).1).1,(a3_ (a2_ h).1).2.1,(a3_ (a2_ h).1).2.2,(a2_ h).2⟩
theorem nt{a:Bool}(h:(!a)=true):a=false:=by cases a<;>first|rfl|exact absurd h Bool.false_ne_true
theorem emp{α:Type}{l:List α}(h:l.isEmpty=true):l=[]:=List.isEmpty_iff.mp h
theorem eN{α:Type}{o:Option α}{f:α→Bool}(h:li o f=true):∃a,o=some a∧f a=true:=by
  cases o with
  |none=>exact absurd h Bool.false_ne_true
  |some a=>exact⟨a,rfl,h⟩
theorem Aj{c:Const}{i:Int}(h:C5 c=some i):c=.int i:=by cases c<;>cases h;rfl
theorem uf{c:Const}{i:ae}(h:Ah c=some i):c=.str i:=by cases c<;>cases h;rfl
theorem w9{c:Const}{i:Bool}(h:zp c=some i):c=.bool i:=by cases c<;>cases h;rfl
theorem w_{c:Const}(h:zq c=true):c=.none:=by cases c<;>first|rfl|exact absurd h Bool.false_ne_true
theorem ug{l:List Expr}{f:Expr→Bool}(h:jn l f=true):∃e,l=[e]∧f e=true:=by
  rcases l with _|⟨e,_|⟨d,l⟩⟩
  · exact absurd h Bool.false_ne_true
  · exact⟨e,rfl,h⟩
  · exact absurd h Bool.false_ne_true
theorem Ak{l:List Expr}{f:Expr→Expr→Bool}(h:ud l f=true):∃e d,l=[e,d]∧f e d=true:=by
  rcases l with _|⟨e,_|⟨d,_|⟨c,l⟩⟩⟩
  · exact absurd h Bool.false_ne_true
  · exact absurd h Bool.false_ne_true
  · exact⟨e,d,rfl,h⟩
  · exact absurd h Bool.false_ne_true
theorem Al{l:List Comprehension}{f:Expr→Expr→List Expr→Bool}(h:C6 l f=true):∃t it ifs,l=[⟨t,it,ifs,0⟩]∧f t it ifs=true:=by
  rcases l with _|⟨⟨t,it,ifs,n⟩,_|⟨d,l⟩⟩
  · exact absurd h Bool.false_ne_true
  · obtain⟨h1,h⟩:=a2_ h
    obtain rfl:n=0:=dec h1
    exact⟨t,it,ifs,rfl,h⟩
  · exact absurd h Bool.false_ne_true
theorem v0{f:Const→Bool}{R:Expr→Prop}(h:on 0 (vw p) f=true)(k:∀c q z,f c=true→R (.Constant c q z)):R p:=(eK h).elim fun c h=>h.1.elim fun q e=>e.elim fun z e=>e.symm▸k c q z h.2
theorem v1{f:ae→Bool}{R:Expr→Prop}(h:on 1 (vw p) f=true)(k:∀n z,f n=true→R (.Name n z)):R p:=(eK h).elim fun n h=>h.1.elim fun z e=>e.symm▸k n z h.2
theorem v2{f:Pay 2→Bool}{R:Expr→Prop}(h:on 2 (vw p) f=true)(k:∀v n z,f (v,n,z)=true→R (.Attribute v n z)):R p:=(eK h).elim fun x h=>(show p=.Attribute x.1 x.2.1 x.2.2 from h.1).symm▸k x.1 x.2.1 x.2.2 h.2
theorem v3{f:Pay 3→Bool}{R:Expr→Prop}(h:on 3 (vw p) f=true)(k:∀v w z,f (v,w)=true→R (.Subscript v w z)):R p:=(eK h).elim fun x h=>h.1.elim fun z e=>e.symm▸k x.1 x.2 z h.2
theorem v4{f:Pay 4→Bool}{R:Expr→Prop}(h:on 4 (vw p) f=true)(k:∀l r s z,f (l,r,s)=true→R (.Slice l r s z)):R p:=(eK h).elim fun x h=>h.1.elim fun z e=>e.symm▸k x.1 x.2.1 x.2.2 z h.2
theorem v5{f:Pay 5→Bool}{R:Expr→Prop}(h:on 5 (vw p) f=true)(k:∀l o r z,f (l,o,r)=true→R (.BinOp l o r z)):R p:=(eK h).elim fun x h=>h.1.elim fun z e=>e.symm▸k x.1 x.2.1 x.2.2 z h.2
theorem v6{f:Pay 6→Bool}{R:Expr→Prop}(h:on 6 (vw p) f=true)(k:∀o v z,f (o,v)=true→R (.UnaryOp o v z)):R p:=(eK h).elim fun x h=>h.1.elim fun z e=>e.symm▸k x.1 x.2 z h.2
theorem v7{f:Pay 7→Bool}{R:Expr→Prop}(h:on 7 (vw p) f=true)(k:∀l o r z,f (l,o,r)=true→R (.Compare l o r z)):R p:=(eK h).elim fun x h=>h.1.elim fun z e=>e.symm▸k x.1 x.2.1 x.2.2 z h.2
theorem v8{f:Pay 8→Bool}{R:Expr→Prop}(h:on 8 (vw p) f=true)(k:∀o v z,f (o,v)=true→R (.BoolOp o v z)):R p:=(eK h).elim fun x h=>h.1.elim fun z e=>e.symm▸k x.1 x.2 z h.2
theorem v9{f:Pay 9→Bool}{R:Expr→Prop}(h:on 9 (vw p) f=true)(k:∀t u v z,f (t,u,v)=true→R (.IfExp t u v z)):R p:=(eK h).elim fun x h=>h.1.elim fun z e=>e.symm▸k x.1 x.2.1 x.2.2 z h.2
theorem v10{f:List Expr→Bool}{R:Expr→Prop}(h:on 10 (vw p) f=true)(k:∀l q z,f l=true→R (.Tuple l q z)):R p:=(eK h).elim fun c h=>h.1.elim fun q e=>e.elim fun z e=>e.symm▸k c q z h.2
theorem v11{f:List Expr→Bool}{R:Expr→Prop}(h:on 11 (vw p) f=true)(k:∀l z,f l=true→R (.List l z)):R p:=(eK h).elim fun c h=>h.1.elim fun z e=>e.symm▸k c z h.2
theorem v12{f:Pay 12→Bool}{R:Expr→Prop}(h:on 12 (vw p) f=true)(k:∀o v z,f (o,v)=true→R (.Dict o v z)):R p:=(eK h).elim fun x h=>h.1.elim fun z e=>e.symm▸k x.1 x.2 z h.2
theorem v13{f:Pay 13→Bool}{R:Expr→Prop}(h:on 13 (vw p) f=true)(k:∀g es ks z,f (g,es,ks,z)=true→R (.Call g es ks z)):R p:=(eK h).elim fun x h=>(show p=.Call x.1 x.2.1 x.2.2.1 x.2.2.2 from h.1).symm▸k x.1 x.2.1 x.2.2.1 x.2.2.2 h.2
theorem v14{f:Pay 14→Bool}{R:Expr→Prop}(h:on 14 (vw p) f=true)(k:∀l o r z,f (l,o,r)=true→R (.ListComp l o r z)):R p:=(eK h).elim fun x h=>h.1.elim fun z e=>e.symm▸k x.1 x.2.1 x.2.2 z h.2
theorem jZ{l:List Expr}{f:Expr→Bool}{R:List Expr→Prop}(h:jn l f=true)(k:∀e,f e=true→R [e]):R l:=(ug h).elim fun e h=>h.1.symm▸k e h.2
theorem uh{l:List Expr}{f:Expr→Expr→Bool}{R:List Expr→Prop}(h:ud l f=true)(k:∀d e,f d e=true→R [d,e]):R l:=(Ak h).elim fun d h=>h.elim fun e h=>h.1.symm▸k d e h.2
theorem lI{α:Type}{l:List α}{R:List α→Prop}(h:l.isEmpty=true)(k:R []):R l:=(emp h).symm▸k
theorem qU{α:Type}{a b:α}[Decidable (a=b)]{R:α→Prop}(h:decide (a=b)=true)(k:R a):R b:=dec h▸k
theorem zr{α:Type}{o:Option α}{R:Option α→Prop}(h:o.isNone=true)(k:R none):R o:=(Option.isNone_iff_eq_none.mp h).symm▸k
theorem EL{o:UnaryOp}{R:UnaryOp→Prop}(h:ue o=true)(k:R .USub):R o:=by cases o<;>first|exact k|exact absurd h Bool.false_ne_true
theorem C7{o:UnaryOp}{R:UnaryOp→Prop}(h:zo o=true)(k:R .Not):R o:=by cases o<;>first|exact k|exact absurd h Bool.false_ne_true
theorem C8{o:BoolOp}{R:BoolOp→Prop}(h:qT o=true)(k:R .And):R o:=by cases o<;>first|exact k|exact absurd h Bool.false_ne_true
theorem EM{o:BoolOp}{R:BoolOp→Prop}(h:(!qT o)=true)(k:R .Or):R o:=by cases o<;>first|exact k|exact absurd h Bool.false_ne_true
theorem c6{f:ae→List Expr→Bool}{R:Expr→Prop}(h:gg p f=true)(k:∀n np es z,f n es=true→R (.Call (.Name n np) es [] z)):R p:=v13 h fun g es ks z h=>v1 (R:=fun g=>R (.Call g es ks z)) h fun n np h=>lI (R:=fun ks=>R (.Call (.Name n np) es ks z)) (a2_ h).1 (k n np es z (a2_ h).2)
@[elab_as_elim] theorem xa{R:Expr→Prop}(h:af io x .none p=true)(k:∀c z,R (.Constant .none c z)):R p:=v0 h fun c q z h=>(w_ h).symm▸k q z
@[elab_as_elim] theorem qV{b:Bool}{R:Expr→Prop}(h:af io x (.bool b) p=true)(k:∀c z,R (.Constant (.bool b) c z)):R p:=v0 h fun c q z h=>(eN h).elim fun d h=>(w9 h.1).symm▸(show b=d from eq_of_beq h.2)▸k q z
@[elab_as_elim] theorem Am{b:Int}{R:Expr→Prop}(h:af io x (.int b) p=true)(k:∀c z,R (.Constant (.int b) c z)):R p:=v0 h fun c q z h=>(eN h).elim fun d h=>(Aj h.1).symm▸(show b=d from dec h.2)▸k q z
@[elab_as_elim] theorem An{b:String}{R:Expr→Prop}(h:af io x (.str b) p=true)(k:∀c z,R (.Constant (.str (Str.ofString b)) c z)):R p:=v0 h fun c q z h=>(eN h).elim fun d h=>(uf h.1).symm▸(show Str.ofString b=d from dec h.2)▸k q z
@[elab_as_elim] theorem iD{i:Nat}{R:Expr→Prop}(h:af io x (.var i) p=true)(k:∀n z,x.isVar i n=true→R (.Name n z)):R p:=v1 h k
@[elab_as_elim] theorem ui{i:Nat}{R:Expr→Prop}(h:af io x (.mov i) p=true)(k:∀n z,x.isVar i n=true→R (.Name n z)):R p:=v1 h fun n z h=>k n z (a2_ h).1
@[elab_as_elim] theorem qW{g:String}{R:Expr→Prop}(h:af io x (.glob g) p=true)(k:∀n z,x.isGlob g n=true→R (.Name n z)):R p:=v1 h k
@[elab_as_elim] theorem jt{e:E}{a:String}{R:Expr→Prop}(h:af io x (.attr e a) p=true)(k:∀v z,a_ v=false→af io x e v=true→a∈bk→R (.Attribute v (Str.ofString a) z)):R p:=v2 h fun v n z h=>have q:=a4_ h;qU (R:=fun n=>R (.Attribute v n z)) q.2.2.1 (k v z (nt q.1) q.2.1 (List.contains_iff_mem.mp q.2.2.2))
@[elab_as_elim] theorem mN{e i:E}{R:Expr→Prop}(h:af io x (.sub e i) p=true)(k:∀v w z,af io x e v=true→af io x i w=true→R (.Subscript v w z)):R p:=v3 h fun v w z h=>k v w z (a2_ h).1 (a2_ h).2
@[elab_as_elim] theorem Ao{e:E}{lo hi:Option E}{R:Expr→Prop}(h:af io x (.slc e lo hi) p=true)(k:∀v l r z z',mK v=true→af io x e v=true→lj io x lo l=true→lj io x hi r=true→R (.Subscript v (.Slice l r none z) z')):R p:=v3 h fun v w z' h=>v4 (R:=fun w=>R (.Subscript v w z')) h fun l r s z h=>have q:=a4_ (a2_ h).1;zr (R:=fun s=>R (.Subscript v (.Slice l r s z) z')) q.1 (k v l r z z' q.2.1 q.2.2.1 q.2.2.2 (a2_ h).2)
@[elab_as_elim] theorem Ap{op:Op}{a b:E}{R:Expr→Prop}(h:af io x (.bin op a b) p=true)(k:∀l r z,af io x a l=true→af io x b r=true→R (.BinOp l (Ag op) r z)):R p:=v5 h fun l o r z h=>have q:=a3_ h;qU (R:=fun o=>R (.BinOp l o r z)) q.1 (k l r z q.2.1 q.2.2)
@[elab_as_elim] theorem Aq{a:E}{R:Expr→Prop}(h:af io x (.neg a) p=true)(k:∀v z,af io x a v=true→R (.UnaryOp .USub v z)):R p:=v6 h fun o v z h=>EL (R:=fun o=>R (.UnaryOp o v z)) (a2_ h).1 (k v z (a2_ h).2)
@[elab_as_elim] theorem uj{a:E}{R:Expr→Prop}(h:af io x (.not a) p=true)(k:∀v z,af io x a v=true→R (.UnaryOp .Not v z)):R p:=v6 h fun o v z h=>C7 (R:=fun o=>R (.UnaryOp o v z)) (a2_ h).1 (k v z (a2_ h).2)
@[elab_as_elim] theorem uk{op:COp}{a b:E}{R:Expr→Prop}(h:af io x (.cmp op a b) p=true)(k:∀l r z,af io x a l=true→af io x b r=true→R (.Compare l [aY op] [r] z)):R p:=v7 h fun l o r z h=>have q:=a3_ h;jZ (R:=fun r=>R (.Compare l o r z)) q.2.2 fun d hd=>(show o=[aY op]from dec q.1).symm▸k l d z q.2.1 hd
@[elab_as_elim] theorem qX{o1 o2:COp}{a b c:E}{R:Expr→Prop}(h:af io x (.cmp2 o1 o2 a b c) p=true)(k:∀l r s z,af io x a l=true→af io x b r=true→af io x c s=true→R (.Compare l [aY o1,aY o2] [r,s] z)):R p:=v7 h fun l o r z h=>have q:=a3_ h;uh (R:=fun r=>R (.Compare l o r z)) q.2.2 fun d e hd=>(show o=[aY o1,aY o2]from dec q.1).symm▸k l d e z q.2.1 (a2_ hd).1 (a2_ hd).2
@[elab_as_elim] theorem Ar{l:List E}{R:Expr→Prop}(h:af io x (.and l) p=true)(k:∀vs z,a0 io x l vs=true→R (.BoolOp .And vs z)):R p:=v8 h fun o v z h=>C8 (R:=fun o=>R (.BoolOp o v z)) (a2_ h).1 (k v z (a2_ h).2)
@[elab_as_elim] theorem C9{l:List E}{R:Expr→Prop}(h:af io x (.or l) p=true)(k:∀vs z,a0 io x l vs=true→R (.BoolOp .Or vs z)):R p:=v8 h fun o v z h=>EM (R:=fun o=>R (.BoolOp o v z)) (a2_ h).1 (k v z (a2_ h).2)
@[elab_as_elim] theorem ul{c a b:E}{R:Expr→Prop}(h:af io x (.ite c a b) p=true)(k:∀t u v z,af io x c t=true→af io x a u=true→af io x b v=true→R (.IfExp t u v z)):R p:=v9 h fun t u v z h=>have q:=a3_ h;k t u v z q.1 q.2.1 q.2.2
theorem um{e:E}(h:af io x (.frz e) p=true):af io x e p=true:=(a2_ h).2
@[elab_as_elim] theorem As{l:List E}{R:Expr→Prop}(h:af io x (.tup l) p=true)(k:∀es q z,l.length≤100→a0 io x l es=true→R (.Tuple es q z)):R p:=v10 h fun es q z h=>k es q z (dec (a2_ h).1) (a2_ h).2
@[elab_as_elim] theorem Au{l:List E}{R:Expr→Prop}(h:af io x (.lst l) p=true)(k:∀es z,l.length≤100→a0 io x l es=true→R (.List es z)):R p:=v11 h fun es z h=>k es z (dec (a2_ h).1) (a2_ h).2
@[elab_as_elim] theorem Av{l:List (String×E)}{R:Expr→Prop}(h:af io x (.dct l) p=true)(k:∀ks vs z,1≤l.length→l.length≤10→(l.map (·.1)).Nodup→nO io x l ks vs=true→R (.Dict ks vs z)):R p:=v12 h fun ks vs z h=>have q:=a4_ h;k ks vs z (dec q.1) (dec q.2.1) (dec q.2.2.1) q.2.2.2
@[elab_as_elim] theorem qY{f:String}{l:List E}{R:Expr→Prop}(h:af io x (.call f l) p=true)(k:∀n np es z,x.isGlob f n=true→f∈gK→l.length≤10→a0 io x l es=true→R (.Call (.Name n np) es [] z)):R p:=c6 h fun n np es z h=>have q:=a4_ h;k n np es z q.1 (List.contains_iff_mem.mp q.2.1) (dec q.2.2.1) q.2.2.2
@[elab_as_elim] theorem zt{f:String}{l:List E}{R:Expr→Prop}(h:af io x (.bi f l) p=true)(k:∀n np es z,x.isGlob f n=true→f∈["len","max","min","int","list"]→a0 io x l es=true→R (.Call (.Name n np) es [] z)):R p:=c6 h fun n np es z h=>have q:=a3_ h;k n np es z q.1 (List.contains_iff_mem.mp q.2.1) q.2.2
@[elab_as_elim] theorem un{c k':String}{l:List E}{R:Expr→Prop}(h:af io x (.new c k' l) p=true)(k:∀n np es z,x.isGlob c n=true→k'=c++".__init__"→l.length≤10→a0 io x l es=true→R (.Call (.Name n np) es [] z)):R p:=c6 h fun n np es z h=>have q:=a4_ h;k n np es z q.1 (dec q.2.1) (dec q.2.2.1) q.2.2.2
@[elab_as_elim] theorem qZ{e:E}{c m k':String}{l:List E}{R:Expr→Prop}(h:af io x (.meth e c m k' l) p=true)(k:∀o ap es z,a_ o=false→k'=c++"."++m→l.length≤10→(ap.endLine==z.line)=true→af io x e o=true→a0 io x l es=true→R (.Call (.Attribute o (Str.ofString m) ap) es [] z)):R p:=v13 h fun g es ks z h=>v2 (R:=fun g=>R (.Call g es ks z)) h fun o n ap h=>have a:=a2_ h;have b:=a4_ a.1;have c:=a2_ b.1;have d:=a3_ c.1;lI (R:=fun ks=>R (.Call (.Attribute o n ap) es ks z)) d.1 (qU (R:=fun n=>R (.Call (.Attribute o n ap) es [] z)) d.2.2 (k o ap es z (nt d.2.1) (dec c.2) (dec b.2.1) b.2.2.1 b.2.2.2 a.2))
@[elab_as_elim] theorem xb{elt:E}{pt:P}{s:Src}{cond:Option E}{R:Expr→Prop}(h:af io x (.comp elt pt s cond) p=true)(k:∀e t it ifs sc z,Ai x pt sc it=true→dw io x s it=true→sB s pt=true→x.n1≤pt.lo→eM (jX x pt sc) pt t=true→af io (jX x pt sc) elt e=true→jY io (jX x pt sc) cond ifs=true→R (.ListComp e [⟨t,it,ifs,0⟩] sc z)):R p:=v14 h fun e g sc z h=>(Al h).elim fun t h=>h.elim fun it h=>h.elim fun ifs h=>have a:=a3_ h.2;have b:=a3_ a.1;have c:=a3_ b.1;(show g=[⟨t,it,ifs,0⟩]from h.1).symm▸k e t it ifs sc z c.1 c.2.1 c.2.2 (dec b.2.1) b.2.2 a.2.1 a.2.2
@[elab_as_elim] theorem iE{R:List Expr→Prop}{ps:List Expr}(h:a0 io x [] ps=true)(k:R []):R ps:=emp h▸k
@[elab_as_elim] theorem eO{e:E}{r:List E}{R:List Expr→Prop}{ps:List Expr}(h:a0 io x (e::r) ps=true)(k:∀p q,af io x e p=true→a0 io x r q=true→R (p::q)):R ps:=by
  cases ps with
  |nil=>exact absurd h Bool.false_ne_true
  |cons p q=>exact k p q (a2_ h).1 (a2_ h).2
@[elab_as_elim] theorem C_{R:Option Expr→Prop}{o:Option Expr}(h:lj io x none o=true)(k:R none):R o:=Option.isNone_iff_eq_none.mp h▸k
@[elab_as_elim] theorem Da{e:E}{R:Option Expr→Prop}{o:Option Expr}(h:lj io x (some e) o=true)(k:∀p,af io x e p=true→R (some p)):R o:=by
  cases o with
  |none=>exact absurd h Bool.false_ne_true
  |some p=>exact k p h
@[elab_as_elim] theorem zu{R:List (Option Expr)→List Expr→Prop}{ks:List (Option Expr)}{vs:List Expr}(h:nO io x [] ks vs=true)(k:R [] []):R ks vs:=by
  obtain⟨h1,h2⟩:=a2_ h
  obtain rfl:=emp h1
  obtain rfl:=emp h2
  exact k
@[elab_as_elim] theorem zw{n:String}{e:E}{r:List (String×E)}{R:List (Option Expr)→List Expr→Prop}{ks:List (Option Expr)}{vs:List Expr}(h:nO io x ((n,e)::r) ks vs=true)
    (k:∀c z q p u,af io x e p=true→nO io x r q u=true→R (some (.Constant (.str (Str.ofString n)) c z)::q) (p::u)):R ks vs:=by
  rcases ks with _|⟨_|kk,q⟩
  · exact absurd h Bool.false_ne_true
  · cases vs<;>exact absurd h Bool.false_ne_true
  · cases vs with
    |nil=>exact absurd h Bool.false_ne_true
    |cons p u=>
      obtain⟨h1,h2,h3⟩:=a3_ h
      obtain⟨c,⟨c',z,rfl⟩,h1⟩:=eK h1
      obtain⟨t,h4,h5⟩:=eN h1
      obtain rfl:=uf h4
      obtain rfl:=dec h5
      exact k c' z q p u h2 h3
theorem nP{l:List Expr}{f:Expr→Bool}{g:Expr→Expr→Bool}{R:List Expr→Prop}(h:mL l f g=true)(k1:∀e,f e=true→R [e])(k2:∀d e,g d e=true→R [d,e]):R l:=by
  rcases l with _|⟨e,_|⟨d,_|⟨c,l⟩⟩⟩
  · exact absurd h Bool.false_ne_true
  · exact k1 e h
  · exact k2 e d h
  · exact absurd h Bool.false_ne_true
@[elab_as_elim] theorem xc{b:E}{R:Expr→Prop}(h:dw io x (.rng none b) p=true)(k:∀n np e z,x.isGlob "range" n=true→af io x b e=true→R (.Call (.Name n np) [e] [] z)):R p:=by
  refine c6 (f:=fun n es=>x.isGlob "range" n&&mL es (fun e=>true&&af io x b e) fun d e=>lj io x none (some d)&&af io x b e) h fun n np es z h=>?_
  obtain⟨h1,h⟩:=a2_ h
  exact nP (R:=fun es=>R (.Call (.Name n np) es [] z)) h (fun e h=>k n np e z h1 h) fun d e h=>absurd (a2_ h).1 Bool.false_ne_true
@[elab_as_elim] theorem xd{a b:E}{R:Expr→Prop}(h:dw io x (.rng (some a) b) p=true)(k:∀n np d e z,x.isGlob "range" n=true→af io x a d=true→af io x b e=true→R (.Call (.Name n np) [d,e] [] z)):R p:=by
  refine c6 (f:=fun n es=>x.isGlob "range" n&&mL es (fun e=>false&&af io x b e) fun d e=>lj io x (some a) (some d)&&af io x b e) h fun n np es z h=>?_
  obtain⟨h1,h⟩:=a2_ h
  exact nP (R:=fun es=>R (.Call (.Name n np) es [] z)) h (fun e h=>absurd h Bool.false_ne_true) fun d e h=>k n np d e z h1 (a2_ h).1 (a2_ h).2
@[elab_as_elim] theorem xe{b:E}{R:Expr→Prop}(h:dw io x (.enum b) p=true)(k:∀n np e z,x.isGlob "enumerate" n=true→af io x b e=true→R (.Call (.Name n np) [e] [] z)):R p:=c6 (f:=fun n es=>x.isGlob "enumerate" n&&jn es fun e=>af io x b e) h fun n np es z h=>jZ (R:=fun es=>R (.Call (.Name n np) es [] z)) (a2_ h).2 fun e he=>k n np e z (a2_ h).1 he
@[elab_as_elim] theorem Aw{a b:E}{R:Expr→Prop}(h:dw io x (.zip a b) p=true)(k:∀n np d e z,x.isGlob "zip" n=true→af io x a d=true→af io x b e=true→R (.Call (.Name n np) [d,e] [] z)):R p:=c6 (f:=fun n es=>x.isGlob "zip" n&&ud es fun d e=>af io x a d&&af io x b e) h fun n np es z h=>uh (R:=fun es=>R (.Call (.Name n np) es [] z)) (a2_ h).2 fun d e he=>k n np d e z (a2_ h).1 (a2_ he).1 (a2_ he).2
@[elab_as_elim] theorem mO{i:Nat}{R:Expr→Prop}(h:eM x (.var i) p=true)(k:∀n z,x.isSt i n=true→R (.Name n z)):R p:=v1 h k
@[elab_as_elim] theorem q_{l:List P}{R:Expr→Prop}(h:eM x (.tup l) p=true)(k:∀es c z,l.length≤10→gL x l es=true→R (.Tuple es c z)):R p:=v10 (f:=fun es=>decide (l.length≤10)&&gL x l es) h fun es c z h=>k es c z (dec (a2_ h).1) (a2_ h).2
@[elab_as_elim] theorem uo{R:List Expr→Prop}{ps:List Expr}(h:gL x [] ps=true)(k:R []):R ps:=emp h▸k
@[elab_as_elim] theorem uq{e:P}{r:List P}{R:List Expr→Prop}{ps:List Expr}(h:gL x (e::r) ps=true)(k:∀p q,eM x e p=true→gL x r q=true→R (p::q)):R ps:=by
  cases ps with
  |nil=>exact absurd h Bool.false_ne_true
  |cons p q=>exact k p q (a2_ h).1 (a2_ h).2
@[elab_as_elim] theorem rc{i:Nat}{b:Bool}{R:Expr→Prop}(h:gM io x (.var i b) p=true)(k:∀n z,x.isSt i n=true→R (.Name n z)):R p:=v1 (f:=fun n=>x.isSt i n&&x.cs.isNone) h fun n z h=>k n z (a2_ h).1
@[elab_as_elim] theorem rd{l:List T}{R:Expr→Prop}(h:gM io x (.tup l) p=true)(k:∀es c z,l.length≤10→ej io x l es=true→R (.Tuple es c z)):R p:=v10 (f:=fun es=>decide (l.length≤10)&&ej io x l es) h fun es c z h=>k es c z (dec (a2_ h).1) (a2_ h).2
@[elab_as_elim] theorem nQ{o:E}{a:String}{R:Expr→Prop}(h:gM io x (.attr o a) p=true)(k:∀v z,af io x o v=true→a∈bk→R (.Attribute v (Str.ofString a) z)):R p:=v2 (f:=fun q=>af io x o q.1&&decide (Str.ofString a=q.2.1)&&bk.contains a) h fun v n z h=>have q:=a3_ h;qU (R:=fun n=>R (.Attribute v n z)) q.2.1 (k v z q.1 (List.contains_iff_mem.mp q.2.2))
@[elab_as_elim] theorem rh{o i:E}{R:Expr→Prop}(h:gM io x (.sub o i) p=true)(k:∀v w z,af io x o v=true→af io x i w=true→R (.Subscript v w z)):R p:=v3 (f:=fun q=>af io x o q.1&&af io x i q.2) h fun v w z h=>k v w z (a2_ h).1 (a2_ h).2
@[elab_as_elim] theorem ur{R:List Expr→Prop}{ps:List Expr}(h:ej io x [] ps=true)(k:R []):R ps:=emp h▸k
@[elab_as_elim] theorem pG{e:T}{r:List T}{R:List Expr→Prop}{ps:List Expr}(h:ej io x (e::r) ps=true)(k:∀p q,gM io x e p=true→ej io x r q=true→R (p::q)):R ps:=by
  cases ps with
  |nil=>exact absurd h Bool.false_ne_true
  |cons p q=>exact k p q (a2_ h).1 (a2_ h).2
variable {st:Stmt}
theorem w0{f:mI 0→Bool}{R:Stmt→Prop}(h:onS 0 (vwS st) f=true)(k:∀u p z,f (u,p)=true→R (.Assign u p z)):R st:=(lF h).elim fun x h=>h.1.elim fun z e=>e.symm▸k x.1 x.2 z h.2
theorem w1{f:Expr→Bool}{R:Stmt→Prop}(h:onS 1 (vwS st) f=true)(k:∀p z,f p=true→R (.Expr p z)):R st:=(lF h).elim fun x h=>h.1.elim fun z e=>e.symm▸k x z h.2
theorem w2{f:mI 2→Bool}{R:Stmt→Prop}(h:onS 2 (vwS st) f=true)(k:∀t u v z,f (t,u,v)=true→R (.If t u v z)):R st:=(lF h).elim fun x h=>h.1.elim fun z e=>e.symm▸k x.1 x.2.1 x.2.2 z h.2
theorem w3{f:mI 3→Bool}{R:Stmt→Prop}(h:onS 3 (vwS st) f=true)(k:∀t u v z,f (t,u,v)=true→R (.While t u v z)):R st:=(lF h).elim fun x h=>h.1.elim fun z e=>e.symm▸k x.1 x.2.1 x.2.2 z h.2
theorem w4{f:mI 4→Bool}{R:Stmt→Prop}(h:onS 4 (vwS st) f=true)(k:∀t i u v z,f (t,i,u,v)=true→R (.For t i u v z)):R st:=(lF h).elim fun x h=>h.1.elim fun z e=>e.symm▸k x.1 x.2.1 x.2.2.1 x.2.2.2 z h.2
theorem w5{f:Option Expr→Bool}{R:Stmt→Prop}(h:onS 5 (vwS st) f=true)(k:∀v z,f v=true→R (.Return v z)):R st:=(lF h).elim fun x h=>h.1.elim fun z e=>e.symm▸k x z h.2
theorem j5{m:ae}{f:Expr→List Expr→Bool}{R:Stmt→Prop}(h:mM m st f=true)(k:∀o ap es z z',(ap.endLine==z.line)=true→f o es=true→R (.Expr (.Call (.Attribute o m ap) es [] z) z')):R st:=w1 h fun c z' h=>v13 (R:=fun c=>R (.Expr c z')) h fun g es ks z h=>v2 (R:=fun g=>R (.Expr (.Call g es ks z) z')) h fun o n ap h=>have q:=a4_ h;lI (R:=fun ks=>R (.Expr (.Call (.Attribute o n ap) es ks z) z')) q.1 ((show n=m from dec q.2.1).symm▸k o ap es z z' q.2.2.1 q.2.2.2)
@[elab_as_elim] theorem ut{t:T}{e:E}{R:Stmt→Prop}(h:gN io x (.asg t e) st=true)(k:∀u p z,gM io x t u=true→af io x e p=true→qS e u p=true→R (.Assign [u] p z)):R st:=w0 (f:=fun q=>jn q.1 fun u=>gM io x t u&&af io x e q.2&&qS e u q.2) h fun us p z h=>jZ (R:=fun us=>R (.Assign us p z)) h fun u h=>have q:=a3_ h;k u p z q.1 q.2.1 q.2.2
@[elab_as_elim] theorem xf{e:E}{R:Stmt→Prop}(h:gN io x (.expr e) st=true)(k:∀p z,af io x e p=true→a_ p=true→R (.Expr p z)):R st:=w1 (f:=fun q=>af io x e q&&a_ q) h fun p z h=>k p z (a2_ h).1 (a2_ h).2
@[elab_as_elim] theorem Ax{q e:E}{b:Bool}{R:Stmt→Prop}(h:gN io x (.app q e b) st=true)(k:∀o ap a z z',(ap.endLine==z.line)=true→af io x q o=true→af io x e a=true→R (.Expr (.Call (.Attribute o "append" ap) [a] [] z) z')):R st:=j5 (m:="append") (f:=fun o es=>af io x q o&&jn es fun a=>af io x e a) h fun o ap es z z' h1 h=>jZ (R:=fun es=>R (.Expr (.Call (.Attribute o "append" ap) es [] z) z')) (a2_ h).2 fun a ha=>k o ap a z z' h1 (a2_ h).1 ha
@[elab_as_elim] theorem Ay{q e:E}{R:Stmt→Prop}(h:gN io x (.ext q e) st=true)(k:∀o ap a z z',(ap.endLine==z.line)=true→af io x q o=true→af io x e a=true→R (.Expr (.Call (.Attribute o "extend" ap) [a] [] z) z')):R st:=j5 (m:="extend") (f:=fun o es=>af io x q o&&jn es fun a=>af io x e a) h fun o ap es z z' h1 h=>jZ (R:=fun es=>R (.Expr (.Call (.Attribute o "extend" ap) es [] z) z')) (a2_ h).2 fun a ha=>k o ap a z z' h1 (a2_ h).1 ha
@[elab_as_elim] theorem Az{q:E}{R:Stmt→Prop}(h:gN io x (.pop q) st=true)(k:∀o ap z z',(ap.endLine==z.line)=true→af io x q o=true→R (.Expr (.Call (.Attribute o "pop" ap) [] [] z) z')):R st:=j5 (m:="pop") (f:=fun o es=>af io x q o&&es.isEmpty) h fun o ap es z z' h1 h=>lI (R:=fun es=>R (.Expr (.Call (.Attribute o "pop" ap) es [] z) z')) (a2_ h).2 (k o ap z z' h1 (a2_ h).1)
@[elab_as_elim] theorem Db{c:E}{a b:List S}{R:Stmt→Prop}(h:gN io x (.ite c a b) st=true)(k:∀t u v z,af io x c t=true→bo io x a u=true→bo io x b v=true→R (.If t u v z)):R st:=w2 (f:=fun q=>af io x c q.1&&bo io x a q.2.1&&bo io x b q.2.2) h fun t u v z h=>have q:=a3_ h;k t u v z q.1 q.2.1 q.2.2
@[elab_as_elim] theorem AA{c:E}{b:List S}{R:Stmt→Prop}(h:gN io x (.whl c b) st=true)(k:∀t u z,af io x c t=true→bo io x b u=true→R (.While t u [] z)):R st:=w3 (f:=fun q=>q.2.2.isEmpty&&af io x c q.1&&bo io x b q.2.1) h fun t u v z h=>have q:=a3_ h;lI (R:=fun v=>R (.While t u v z)) q.1 (k t u z q.2.1 q.2.2)
@[elab_as_elim] theorem AB{pt:P}{s:Src}{b:List S}{R:Stmt→Prop}(h:gN io x (.for_ pt s b) st=true)(k:∀t i u z,eM x pt t=true→sB s pt=true→lH i=false→dw io x s i=true→bo io x b u=true→R (.For t i u [] z)):R st:=w4 (f:=fun q=>q.2.2.2.isEmpty&&eM x pt q.1&&sB s pt&&!lH q.2.1&&dw io x s q.2.1&&bo io x b q.2.2.1) h fun t i u v z h=>have a:=a3_ h;have b:=a4_ a.1;lI (R:=fun v=>R (.For t i u v z)) b.1 (k t i u z b.2.1 b.2.2.1 (nt b.2.2.2) a.2.1 a.2.2)
@[elab_as_elim] theorem xg{R:Stmt→Prop}(h:gN io x (.ret none) st=true)(k:∀z,R (.Return none z)):R st:=w5 (f:=fun q=>q.isNone) h fun v z h=>zr (R:=fun v=>R (.Return v z)) h (k z)
@[elab_as_elim] theorem AC{e:E}{R:Stmt→Prop}(h:gN io x (.ret (some e)) st=true)(k:∀p z,af io x e p=true→R (.Return (some p) z)):R st:=w5 (f:=fun q=>li q fun p=>af io x e p) h fun v z h=>(eN h).elim fun p h=>h.1.symm▸k p z h.2
@[elab_as_elim] theorem AD{R:List Stmt→Prop}{ps:List Stmt}(h:bo io x [] ps=true)(k:R []):R ps:=emp h▸k
theorem Dc{v:Expr}(h:mK v=true):∃n z,v=.Name n z:=let⟨n,⟨z,e⟩,_⟩:=eK h;⟨n,z,e⟩
end
end Mine.Internal
end
section
namespace Mine.Internal
open PySem PySem.W PySem.Calls PyProof.Rows
noncomputable def dq:List String:=["len","max","min","int","list","range","enumerate","zip"]
structure Facts (C:Cx):Prop where
  inK:C.K.In C.h₀
  g:C.h₀.Ns mainGlobals C.mg
  b:C.h₀.Ns builtinsNs C.mb
  blt:∀x:ae,x≠"__name__"→C.mb x=bootBuiltins x
  nolimit:C.h₀.NoLimit
  glob:∀g x,C.G.glob g=some x→∃v,C.mg (Str.ofString g)=some v∧∀y:Y,(∀b o,C.h₀.get? b=some o→y.h.get? b=some o)→(∀b o,C.h₀.get? b=some o→y.F b)→aV C y v x
  bi:∀f∈dq,C.mg (Str.ofString f)=none
  get:∀c A,C.cl.of c=some A→∀n,plainGet C.K A n=true
  dict:∀c A,C.cl.of c=some A→hasDictIn C.K A=true
  fnK:∀k f,C.fa k=some f→keepIn C.K (.ref f)=true
  fnG:∀k f,C.fa k=some f→k∈gK→C.mg (Str.ofString k)=some (.ref f)
  ioOk:∀k fn,C.tab k=some fn→fn.io=C.G.io k
  cls:∀c A f,C.cl.of c=some A→C.fa (c++".__init__")=some f→C.mg (Str.ofString c)=some (.ref A)∧keepIn C.K (.ref A)=true∧makesIn C.K A=true∧findIn C.K (.ref A) "__init__"=some (some (.ref f))∧typeIn C.K (.ref f)=some (.type "function")
  clsOf:∀c f,C.fa (c++".__init__")=some f→∃A,C.cl.of c=some A
  meth:∀c A m f,C.cl.of c=some A→C.fa (c++"."++m)=some f→findIn C.K (.ref A) (Str.ofString m)=some (some (.ref f))∧isFn C.K (.ref f)=true
  prop:∀c A n k,C.cl.of c=some A→C.G.prop c n=some k→C.G.io k=[false]∧∃p f rest,C.fa k=some f∧findIn C.K (.ref A) (Str.ofString n)=some (some (.ref p))∧specialIn C.K (.ref p) "__get__"=some (some (.builtin "property.__get__"))∧takesIn C.K (.ref p)=some true∧recIn C.K p "property"=some (.ref f::rest)
  setattr:∀c A,C.cl.of c=some A→findIn C.K (.ref A) "__setattr__"=some (some (.builtin "object.__setattr__"))∧plainOver C.K A=true
  taker:∀c A,C.cl.of c=some A→∀n∈bk,C.G.prop c n=none→takerIn C.K A (Str.ofString n)=some none
  attr:∀c A,C.cl.of c=some A→∀n∈bk,C.G.prop c n=none→∃t,findIn C.K (.ref A) (Str.ofString n)=some t∧noGet C.K t=true
structure Bud (A:Around) (d:Nat):Prop where
  handled:A.handled=none
  depth:A.depth+20*d+20≤900
  units:A.units+100*d+400≤9000
structure BudC (A:Around) (d:Nat):Prop where
  handled:A.handled=none
  depth:A.depth+20*d+10≤900
  units:A.units+100*d+350≤9000
theorem Bud.call{A:Around}{d:Nat}(B:Bud A d):BudC A d:=⟨B.handled,by have:=B.depth;(exact Nat.succ_le_of_lt (by first|assumption|omega)),by have:=B.units;(exact Nat.le_of_lt (by trivial))⟩
theorem Bud.call1{A:Around}{d:Nat}(B:Bud A d):BudC A.in1 d:=⟨B.handled,by have:=B.depth;simp only[Around.in1_depth];(exact Nat.add_le_add_right (by trivial) _),by have:=B.units;simp only[Around.in1_units];lia⟩
theorem Bud.in1{A:Around}{d:Nat}(B:Bud A (d+1)):Bud A.in1 d:=by
  obtain⟨h,a,b⟩:=B
  exact⟨h,by simp only[Around.in1_depth];(exact Nat.le_of_add_right_le a),by simp only[Around.in1_units];(exact Nat.le_of_lt_succ (by trivial))⟩
noncomputable def Val(C:Cx)(y:Y)(t:Bool)(v:Value)(m:M)(N:List Addr):Prop:=ag C y v m N∨(t=false∧N=[]∧∃f,(∀b∈f,b∈y.os.flatten)∧ag C y v m f)
noncomputable abbrev W(C:Cx)(k:Kx){α:Type}(x:Sem α)(Q:α→Shared→Prop)(s:Shared):Prop:=wpAny (model C.cl.prog C.cl.w) k.A x Q (fun _ _=>False) s
noncomputable def d5(C:Cx)(k:Kx)(y:Y)(σ:List M)(c t:Bool)(m:M)(σ':List M)(Q:Value→Shared→Prop):Prop:=∀v y' N,Run C k y σ c y' σ' N→Val C y' t v m N→Q v y'.s
noncomputable def SE(C:Cx)(Φ:Phi)(d:Nat)(e:E):Prop:=∀{k:Kx} {y:Y} {σ:List M} {p:PySem.Expr} {m:M} {σ':List M} {Q:Value→Shared→Prop},
  St C k y σ→Bud k.A d→af C.G.io k.a.sx e p=true→ev C.G Φ e σ=some (m,σ')→d5 C k y σ (e.calm C.G.io) e.temp m σ' Q→W C k (eval p k.a.env) Q y.s
section
variable {C:Cx} {Φ:Phi} {d:Nat} {k:Kx} {y y':Y} {σ σ':List M} {Q:Value→Shared→Prop} {c t:Bool} {m:M} {a:Act}
theorem a4(y:Y)(t:Nat)(D:List Addr):Mv y (y.to { y.s with toks:=t }) D:=⟨⟨_,t,rfl⟩,fun _ _ _ e=>e,fun _ e=>e⟩
theorem Val.at_{v:Value}{N:List Addr}(r:Val C y t v m N):∃f,ag C y v m f:=r.elim (fun r=>⟨_,r⟩) fun r=>r.2.2.elim fun f r=>⟨f,r.2⟩
theorem Val.v{x:V}{v:Value}{N:List Addr}(r:Val C y t v (.v x) N):aV C y v x:=r.at_.elim fun _ r=>r.2
theorem Val.mk{x:V}{v:Value}(r:aV C y v x):Val C y t v (.v x) []:=.inl ⟨rfl,r⟩
theorem d5.v{x:V}{v:Value}{N:List Addr}{s:Shared}(hq:d5 C k y σ c t (.v x) σ' Q)(R:Run C k y σ c y' σ' N)(mv:Mv y' (y'.to s) [])(r:aV C (y'.to s) v x):Q v s:=hq v (y'.to s) [] (R.drop0.still mv) (.mk r)
theorem d5.v0{x:V}{v:Value}{N:List Addr}(hq:d5 C k y σ c t (.v x) σ' Q)(R:Run C k y σ c y' σ' N)(r:aV C y' v x):Q v y'.s:=hq v y' [] R.drop0 (.mk r)
@[elab_as_elim] theorem sm{α β:Type}{a a':α}{b b':β}{R:α→β→Prop}(h:some (a,b)=some (a',b'))(k:R a b):R a' b':=by
  cases h;exact k
theorem xh:SE C Φ d .none:=fun S _ hc he=>sm he fun hq=>xa hc fun _ _=>wpAny_Constant_none (hq.v0 (.refl S _) rfl)
theorem ri(b:Bool):SE C Φ d (.bool b):=fun S _ hc he=>sm he fun hq=>qV hc fun _ _=>wpAny_Constant_bool (hq.v0 (.refl S _) rfl)
theorem AE(i:Int):SE C Φ d (.int i):=fun S _ hc he=>sm he fun hq=>Am hc fun _ _=>wpAny_Constant_int (hq.v (.refl S _) (a4 ..) ⟨_,rfl⟩)
theorem AF(x:String):SE C Φ d (.str x):=fun S _ hc he=>sm he fun hq=>An hc fun _ _=>wpAny_Constant_str (hq.v (.refl S _) (a4 ..) ⟨_,rfl⟩)
theorem nR{n:ae}(h:(!decide (n=("__debug__":ae)))=true):(n==("__debug__":ae))=false:=beq_eq_false_iff_ne.mpr (of_decide_eq_false (nt h))
theorem AG{o:Option NameKind}{a b:Bool}(h:(match o with|some .cell=>a|some .local=>b|_=>false)=true):(o=some .cell∧a=true)∨(o=some .local∧b=true):=by
  cases o with
  |none=>exact absurd h Bool.false_ne_true
  |some k=>cases k<;>first|exact .inl ⟨rfl,h⟩|exact .inr ⟨rfl,h⟩|exact absurd h Bool.false_ne_true
theorem mP{o:Option String}{n:ae}(h:(match o with|some s=>decide (Str.ofString s=n)|none=>false)=true):∃x,o=some x∧Str.ofString x=n:=by
  cases o with
  |none=>exact absurd h Bool.false_ne_true
  |some x=>exact⟨x,rfl,dec h⟩
theorem xi{i:Nat}(h:a.sx.reads i=true):a.reads i:=by
  obtain⟨e,vs,fr,n1,cs,pin⟩:=a
  cases cs with
  |none=>exact(dec h:i<n1)
  |some p=>exact⟨(dec (a2_ h).1:p.1≤i),(dec (a2_ h).2:i<p.2)⟩
theorem Sx.isVar_spec{i:Nat}{n:ae}(h:a.sx.isVar i n=true):∃x,a.vs[i]?=some x∧Str.ofString x=n∧((a.env.kindOf n=some .cell∧i<a.n1)∨(a.env.kindOf n=some .local∧a.reads i)):=
  (mP (a3_ h).1).elim fun x h1=>⟨x,h1.1,h1.2,(AG (a3_ h).2.1).imp (fun h=>⟨h.1,dec h.2⟩) fun h=>⟨h.1,xi h.2⟩⟩
theorem Sx.isVar_dbg{i:Nat}{n:ae}(h:a.sx.isVar i n=true):(n==("__debug__":ae))=false:=nR (a3_ h).2.2
theorem Sx.isSt_spec{i:Nat}{n:ae}(h:a.sx.isSt i n=true):a.sx.isVar i n=true∧∀q∈a.pin,q.1≠i:=
  ⟨(a2_ h).1,fun q hq e=>absurd (List.contains_iff_mem.mpr (e▸List.mem_map.mpr ⟨q,hq,rfl⟩)) (Bool.eq_false_iff.mp (nt (a2_ h).2))⟩
theorem eP{n:ae}{i:Nat}{E:Value→Shared→Prop}(S:St C k y σ)(hv:k.a.sx.isVar i n=true)(hm:σ[i]?=some m)(hne:m≠M.undef)(h:∀x u fp,Slot C k.a y i m x u fp→Q u y.s):
    wpAny (model C.cl.prog C.cl.w) k.A (loadName k.a.env n) Q E y.s:=by
  obtain⟨x,hx,rfl,hk⟩:=Sx.isVar_spec hv
  obtain⟨x',u,fp,L⟩:=S.vars.at_ i m hm hne
  obtain rfl:x'=x:=Option.some.inj (L.v.symm.trans hx)
  rcases hk with⟨hk,hi⟩|⟨hk,hi⟩
  · obtain⟨c,hc,hcell⟩:=L.at_.1 hk hi
    exact wpAny_loadName_cell k.hE.kind hk hc hcell (h _ u fp L)
  · obtain⟨n,hn,hnx⟩:=L.at_.2 hk hi
    exact wpAny_loadName_local k.hE.kind hk hn hnx (h _ u fp L)
theorem nS(x:M):x=.undef∨x≠.undef∧∀{α:Type} (f:M→Option α),(match some x with|some .undef=>none|some m=>f m|none=>none)=f x:=by
  cases x<;>first|exact .inl rfl|exact .inr ⟨nofun,fun _=>rfl⟩
@[elab_as_elim] theorem pH{i:Nat}{τ τ':List M}{R:List M→Prop}(h:(match σ[i]? with|some .undef=>none|some m=>some (m,τ)|none=>none)=some (m,τ'))(k:σ[i]?=some m→m≠.undef→R τ):R τ':=by
  cases hx:σ[i]? with
  |none=>rw[hx]at h;exact ns h
  |some x=>
    rw[hx]at h
    rcases nS x with rfl|⟨hn,hf⟩
    · exact ns h
    · have h:=(hf _).symm.trans h
      cases h
      exact k hx hn
theorem uu(i:Nat):SE C Φ d (.var i):=fun S _ hc he=>pH he fun hm hne hq=>iD hc fun n z hc=>
  wpAny_Name (eP S hc hm hne fun x u fp L=>hq u _ [] (.refl S _) (.inr ⟨rfl,rfl,fp,fun b hb=>bW L.o hb,L.rep⟩)) (Sx.isVar_dbg hc)
theorem cz{i:Nat}{fp:List Addr}{os:List (List Addr)}(h:os[i]?=some fp):os.flatten.Perm (fp++(os.set i []).flatten):=by
  induction os generalizing i with
  |nil=>cases h
  |cons x r ih=>
    cases i with
    |zero=>cases h;exact .refl _
    |succ i=>exact(List.Perm.append_left x (ih h)).trans (List.perm_append_comm_assoc _ _ _)
theorem bL{α:Type}{l:List α}{i:Nat}{x:α}(h:l[i]?=some x):i<l.length:=(List.getElem?_eq_some_iff.mp h).1
theorem fe{α:Type}{l:List α}{i j:Nat}{x z:α}{P:Prop}(h:(l.set i x)[j]?=some z)(k1:i=j→x=z→P)(k2:i≠j→l[j]?=some z→P):P:=by
  by_cases e:i=j
  · subst e
    have hl:=bL h
    rw[List.getElem?_set_self (List.length_set (as:=l)▸hl)]at h
    exact k1 rfl (Option.some.inj h)
  · rw[List.getElem?_set_ne e]at h
    exact k2 e h
theorem pI{α:Type}{l:List α}{i:Nat}{x z:α}(h:l[i]?=some z):(l.set i x)[i]?=some x:=List.getElem?_set_self (bL h)
theorem Vars.undef(V:Vars C a y σ)(i:Nat):Vars C a (y.va y.ρ (y.os.set i [])) (σ.set i .undef):=by
  refine⟨(List.length_set ..).symm▸V.lenR,(List.length_set ..).trans (V.lenO.trans (List.length_set ..).symm),(List.length_set ..).symm▸V.lenV,V.ns,V.cell,fun j m e hne=>?_,fun j e=>?_,V.pin⟩
  · refine fe e (fun _ e=>absurd e.symm hne) fun hij e=>?_
    obtain⟨x,u,fp,L⟩:=V.at_ j m e hne
    exact⟨x,u,fp,L.v,L.ρ,(List.getElem?_set_ne hij).trans L.o,L.at_,(ag.stay L.rep (.up rfl fun _ h=>h))⟩
  · refine fe e (fun hij _=>?_) fun hij e=>(List.getElem?_set_ne hij).trans (V.und j e)
    subst hij
    exact List.getElem?_set_self (by rw[V.lenO];have:=bL e;rwa[List.length_set]at this)
theorem uv(i:Nat):SE C Φ d (.mov i):=fun{k y σ p m σ' Q} S _ hc he=>by
  refine pH he fun hm hne hq=>ui hc fun n z hc=>wpAny_Name (eP S hc hm hne fun x u fp L=>?_) (Sx.isVar_dbg hc)
  have p:=cz L.o
  refine hq u (y.va y.ρ (y.os.set i [])) fp ⟨⟨.refl _,fun _ _ _ e=>e,fun _ e=>e⟩,⟨?_,S.vars.undef i⟩,nofun,fun _ _=>rfl,fun b hb=>.inl (p.mem_iff.mpr (List.mem_append.mpr hb.symm)),fun j hj=>?_⟩ (.inl (ag.stay L.rep (.up rfl fun _ h=>h)))
  · exact(S.ht.perm (.append_left _ ((p.append_right _).trans (pm [fp,(y.os.set i []).flatten,k.X] (.a (.a t0 t1) t2) (.a t1 (.a t0 t2)) rfl)))).re rfl rfl
  · by_cases e:i=j
    · subst e;exact pI hm
    · exact(List.getElem?_set_ne e).trans hj
theorem lJ{g:String}{n:ae}(h:a.sx.isGlob g n=true):n=Str.ofString g∧a.env.kindOf n=some .globalImplicit∧(n==("__debug__":ae))=false:=
  ⟨(dec (a3_ h).1).symm,dec (a3_ h).2.1,nR (a3_ h).2.2⟩
theorem pJ:∀g∈dq,Str.ofString g≠Str.ofString "__name__":=by decide +kernel
theorem iF{g:String}{n:ae}{pos:Pos}{v:Value}{E:Value→Shared→Prop}(FC:Facts C)(S:St C k y σ)(hg:k.a.sx.isGlob g n=true)(hv:C.mg (Str.ofString g)=some v)(h:Q v y.s):
    wpAny (model C.cl.prog C.cl.w) k.A (eval (.Name n pos) k.a.env) Q E y.s:=by
  obtain⟨rfl,hk,hd⟩:=lJ hg
  exact Name_function_global k.hE.kind hk (loadGlobal_global (by rw[k.hE.globals];exact FC.g.keeps S.ht.stays) hv h) hd
theorem gO{g:String}{n:ae}{pos:Pos}{v:Value}{E:Value→Shared→Prop}(FC:Facts C)(S:St C k y σ)(hg:k.a.sx.isGlob g n=true)(hf:g∈dq)
    (hb:bootBuiltins (Str.ofString g)=some v)(h:Q v y.s):wpAny (model C.cl.prog C.cl.w) k.A (eval (.Name n pos) k.a.env) Q E y.s:=by
  obtain⟨rfl,hk,hd⟩:=lJ hg
  refine Name_function_global k.hE.kind hk (loadGlobal_builtin (mb:=C.mb) (by rw[k.hE.globals];exact FC.g.keeps S.ht.stays) (FC.bi g hf) (by rw[k.hE.builtins];exact FC.b.keeps S.ht.stays) ((FC.blt _ ?_).trans hb) h) hd
  exact pJ g hf
@[elab_as_elim] theorem xj{G:Tab}{g:String}{R:M→List M→Prop}(h:ev G Φ (.glob g) σ=some (m,σ'))(k:∀x,G.glob g=some x→R (.v x) σ):R m σ':=oM h fun x hx e=>sm (congrArg some e) (k x hx)
theorem rj(FC:Facts C)(g:String):SE C Φ d (.glob g):=fun S _ hc he=>xj he fun x hx hq=>qW hc fun n z hc=>
  (FC.glob g x hx).elim fun v hv=>iF FC S hc hv.1 (hq.v0 (.refl S _) (hv.2 _ S.ht.stays S.ht.base'))
end
end Mine.Internal
end
section
namespace Mine.Internal
open PySem PySem.W PySem.Calls PyProof.Rows
mutual
noncomputable def V.py:V→PyData
  |.none=>.none
  |.bool b=>.bool b
  |.int i=>.int i
  |.str s=>.str (Str.ofString s)
  |.tup l=>.tuple (V.pys l)
  |.lst l=>.list (V.pys l)
  |.obj _ _=>.none
noncomputable def V.pys:List V→List PyData
  |[]=>[]
  |x::r=>x.py::V.pys r
end
theorem bB{a b:String}(h:Str.ofString a=Str.ofString b):a=b:=by
  rw[Str.ofString_eq_toList,Str.ofString_eq_toList]at h
  have h1:(a.toList.map Char.toNat)=(b.toList.map Char.toNat):=by
    have:=congrArg (fun x:PySem.Str=>x.cps.toList) h
    simpa using this
  have h2:a.toList=b.toList:=by
    refine List.map_inj_right (f:=Char.toNat) ?_ |>.mp h1
    intro x y e
    exact Char.toNat_inj.mp e
  exact String.toList_inj.mp h2
theorem V.reads{C:Cx}{y:Y}:(∀x:V,∀{u} (n:Nat),aV C y u x→x.plain n=true→∃as,Reads y.h u x.py as)∧(∀l:List V,∀{us} (n:Nat),al C y us l→V.plains l n=true→∃as,ReadsAll y.h us (V.pys l) as)∧∀_:List (String×V),True:=by
  refine V.ind (fun n r _=>?_) (fun b u n r _=>?_) (fun i u n r _=>?_) (fun s u n r _=>?_) (fun l ih u n r hp=>?_) (fun l ih u n r hp=>?_) (fun c fs _ u n _ hp=>?_) (fun n r _=>?_) (fun x l hx hl us n r hp=>?_) trivial fun _ _ _ _ _=>trivial
  · rw[show _=Value.none from r];exact⟨_,.none⟩
  · rw[show u=.bool b from r];exact⟨_,.bool b⟩
  · exact r.int_e fun t=>⟨_,.int i t⟩
  · exact r.str_e fun t=>⟨_,.str _ t⟩
  · cases n with
    |zero=>exact nomatch hp
    |succ n=>
      refine r.tup_e fun a vs _ ht _ q=>?_
      obtain⟨o,ho,hc,k,hd⟩:=ht
      exact(ih n q hp).elim fun as q=>⟨_,.tuple ho hc hd q⟩
  · cases n with
    |zero=>exact nomatch hp
    |succ n=>
      refine r.lst_e fun a vs _ ht _ q=>?_
      obtain⟨k,ho⟩:=ht
      exact(ih n q hp).elim fun as q=>⟨_,.list ho rfl rfl q⟩
  · cases n<;>exact nomatch hp
  · rw[show _=[]from r];exact⟨_,.nil⟩
  · exact r.cons_e fun u ws h1 h2=>(hx n h1 (a2_ hp).1).elim fun as p=>(hl n h2 (a2_ hp).2).elim fun bs q=>⟨_,.cons p q⟩
theorem uw(s:String):PyData.strOk (Str.ofString s)=true:=by
  rw[Str.ofString_eq_toList]
  unfold PyData.strOk
  simp only[List.all_toArray,List.all_map,List.all_eq_true,Function.comp_apply]
  intro c _
  have:=c.valid
  simp only[UInt32.isValidChar,Nat.isValidChar]at this
  refine decide_eq_true ?_
  show c.val.toNat<1114112
  (exact Nat.succ_le_of_lt (by first|assumption|omega))
theorem V.lay_:(∀x:V,∀n:Nat,x.plain n=true→x.py.canLay0=true∧x.py.depth≤n)∧(∀l:List V,∀n:Nat,V.plains l n=true→PyData.canLayAll0 (V.pys l)=true∧PyData.depthAll (V.pys l)≤n)∧∀_:List (String×V),True:=by
  refine V.ind (fun n _=>⟨rfl,Nat.zero_le _⟩) (fun b n _=>⟨rfl,Nat.zero_le _⟩) (fun b n _=>⟨rfl,Nat.zero_le _⟩) (fun s n _=>⟨uw s,Nat.zero_le _⟩) (fun l ih n h=>?_) (fun l ih n h=>?_) (fun c fs _ n hp=>?_) (fun n _=>⟨rfl,Nat.zero_le _⟩) (fun x l hx hl n h=>?_) trivial fun _ _ _ _ _=>trivial
  · cases n with
    |zero=>exact nomatch h
    |succ n=>exact⟨(ih n h).1,Nat.succ_le_succ (ih n h).2⟩
  · cases n with
    |zero=>exact nomatch h
    |succ n=>exact⟨(ih n h).1,Nat.succ_le_succ (ih n h).2⟩
  · cases n<;>exact nomatch hp
  · exact⟨Bool.and_eq_true_iff.mpr ⟨(hx n (a2_ h).1).1,(hl n (a2_ h).2).1⟩,Nat.max_le.mpr ⟨(hx n (a2_ h).1).2,(hl n (a2_ h).2).2⟩⟩
theorem V.shaped{x:V}(h:x.plain 16=true):SeqAt.shaped x.py=true:=by
  obtain⟨h1,h2⟩:=V.lay_.1 x 16 h
  unfold SeqAt.shaped
  rw[h1,Bool.true_and]
  exact decide_eq_true (by(exact Nat.le_trans (by trivial) (Nat.le_add_left _ _)))
theorem V.eq_py_:(∀x:V,∀(y:V) (n k:Nat),x.plain n=true→y.plain k=true→PyData.eqv x.py y.py=x.eq y)∧(∀x:List V,∀(y:List V) (n k:Nat),V.plains x n=true→V.plains y k=true→PyData.eqvAll (V.pys x) (V.pys y)=V.eqs x y)∧∀_:List (String×V),True:=by
  have obj:∀{c fs k},(V.obj c fs).plain k=true→False:=fun{c fs k} h=>by cases k<;>exact nomatch h
  refine V.ind (fun y n k _ h=>?_) (fun a y n k _ h=>?_) (fun a y n k _ h=>?_) (fun a y n k _ h=>?_) (fun l ih y n k h1 h=>?_) (fun l ih y n k h1 h=>?_) (fun c fs _ y n k h=>(obj h).elim) (fun y n k _ _=>?_) (fun a r hx hl y n k h1 h2=>?_) trivial fun _ _ _ _ _=>trivial
  · cases y<;>first|rfl|exact(obj h).elim
  · cases y<;>first|rfl|exact(obj h).elim
  · cases y<;>first|rfl|exact(obj h).elim
  · cases y<;>first|rfl|exact(obj h).elim|(
      rename_i b
      show(Str.ofString a==Str.ofString b)=decide (a=b)
      exact Bool.eq_iff_iff.mpr ⟨fun q=>decide_eq_true (bB (eq_of_beq q)),fun q=>of_decide_eq_true q▸beq_self_eq_true _⟩)
  · cases y<;>first|rfl|exact(obj h).elim|(cases n<;>cases k<;>first|exact absurd h1 Bool.false_ne_true|exact absurd h Bool.false_ne_true|exact ih _ _ _ h1 h)
  · cases y<;>first|rfl|exact(obj h).elim|(cases n<;>cases k<;>first|exact absurd h1 Bool.false_ne_true|exact absurd h Bool.false_ne_true|exact ih _ _ _ h1 h)
  · cases y<;>rfl
  · cases y with
    |nil=>rfl
    |cons b q=>exact congr (congrArg _ (hx b n k (a2_ h1).1 (a2_ h2).1)) (hl q n k (a2_ h1).2 (a2_ h2).2)
theorem ag.toReads{C:Cx}{y:Y}{m:M}{x:V}{u:Value}{fp:List Addr}(r:ag C y u m fp)(hx:m.toV=some x)(hp:x.plain 16=true):∃as,Reads y.h u x.py as:=(V.reads (C:=C) (y:=y.fz fp)).1 x 16 (r.frz hx) hp
end Mine.Internal
end
section
namespace Mine.Internal
open PySem PySem.W PySem.Calls PyProof.Rows
section
variable {C:Cx} {y:Y}
theorem al.length{l:List V}:∀{us:List Value},al C y us l→us.length=l.length:=by
  induction l with
  |nil=>intro us e;rw[show us=[]from e];rfl
  |cons x r ih=>intro us e;exact e.cons_e fun u ws _ h=>congrArg Nat.succ (ih h)
theorem aw.length{l:List M}:∀{us:List Value} {fp:List Addr},aw C y us l fp→us.length=l.length:=by
  induction l with
  |nil=>intro us fp e;rw[e.1];rfl
  |cons x r ih=>intro us fp e;exact aw.cons_e (R:=fun us _=>us.length=r.length+1) e fun u ws _ _ _ h=>congrArg Nat.succ (ih h)
theorem az.length{l:List (String×M)}:∀{us:List (ae×Value)} {fp:List Addr},az C y us l fp→us.length=l.length:=by
  induction l with
  |nil=>intro us fp e;rw[e.1];rfl
  |cons x r ih=>intro us fp e;exact az.cons_e (R:=fun us _=>us.length=r.length+1) e fun u ws _ _ _ h=>congrArg Nat.succ (ih h)
theorem al.size{l:List V}{vs:Array Value}(r:al C y vs.toList l):vs.size=l.length:=r.length
theorem aw.size{l:List M}{vs:Array Value}{fp:List Addr}(r:aw C y vs.toList l fp):vs.size=l.length:=r.length
theorem al.toM{l:List V}:∀{us:List Value},al C y us l→aw C y us (l.map .v) []:=by
  induction l with
  |nil=>intro us e;exact⟨e,rfl⟩
  |cons x r ih=>intro us e;exact e.cons_e fun u ws h1 h2=>⟨u,ws,[],[],rfl,rfl,⟨rfl,h1⟩,ih h2⟩
theorem ei.toM{l:List (String×V)}:∀{us:List (ae×Value)},ei C y us l→az C y us (l.map fun p=>(p.1,.v p.2)) []:=by
  induction l with
  |nil=>intro us e;exact⟨e,rfl⟩
  |cons x r ih=>intro us e;exact e.cons_e fun u ws h1 h2=>⟨u,ws,[],[],rfl,rfl,⟨rfl,h1⟩,ih h2⟩
theorem AH{m:M}{r:List M}{vs:List V}{R:M→List V→Prop}(e:a5 (m::r)=some vs)(k:∀x ys,a5 r=some ys→R (.v x) (x::ys)):R m vs:=by
  cases m with
  |v x=>exact oM e fun ys hy e=>e▸k x ys hy
  |_=>exact ns e
theorem gP{l:List M}:∀{vs:List V},a5 l=some vs→l=vs.map .v:=by
  induction l with
  |nil=>intro vs e;cases e;rfl
  |cons m r ih=>intro vs e;exact AH (R:=fun m vs=>m::r=vs.map .v) e fun x ys h=>congrArg _ (ih h)
theorem aw.ofVals{vs:List V}:∀{us:List Value} {fp:List Addr},aw C y us (vs.map .v) fp→fp=[]∧al C y us vs:=by
  induction vs with
  |nil=>intro us fp r;exact⟨r.2,r.1⟩
  |cons x r ih=>
    intro us fp q
    refine aw.cons_e (R:=fun us fp=>fp=[]∧al C y us (x::r)) q fun u ws f g h1 h2=>?_
    obtain⟨rfl,i2⟩:=ih h2
    obtain⟨rfl,i1⟩:=h1
    exact⟨rfl,u,ws,rfl,i1,i2⟩
theorem lK{x:List V}:(x.map M.v).length=x.length:=List.length_map ..
theorem aQ{h:Heap}{a:Addr}{vs:Array Value}(x:h.PlainList a vs):h.IsList a vs:=x.elim fun n hl=>⟨_,hl,rfl,n,rfl⟩
@[elab_as_elim] theorem ag.plain{m:M}{l:List V}{u:Value}{fp:List Addr}{R:Value→Prop}(r:ag C y u m fp)(e:m.list?=some l)(k:∀a vs,y.h.PlainList a vs→l.length≤big→al C y vs.toList l→(y.F a∨a∈fp)→R (.ref a)):R u:=by
  cases m with
  |v x=>
    cases x with
    |lst x=>cases e;exact r.2.lst_e fun a vs h1 h2 h3 h4=>k a vs h2 h3 h4 (.inl h1)
    |_=>exact ns e
  |lst x=>cases e;exact r.lst_e (R:=fun u fp=>(∀a vs,y.h.PlainList a vs→l.length≤big→al C y vs.toList l→(y.F a∨a∈fp)→R (.ref a))→R u) (fun a vs h2 h3 h4 k=>k a vs h2 h3 h4 (.inr (.head _))) k
  |lstM x=>
    rw[gP e]at r
    refine r.lstM_e (R:=fun u fp=>(∀a vs,y.h.PlainList a vs→l.length≤big→al C y vs.toList l→(y.F a∨a∈fp)→R (.ref a))→R u) (fun a vs f h2 h3 h4 k=>k a vs h2 ?_ h4.ofVals.2 (.inr (.head _))) k
    rw[List.length_map]at h3;exact h3
  |_=>exact ns e
@[elab_as_elim] theorem ag.seq{m:M}{l:List M}{u:Value}{fp:List Addr}{R:Value→Prop}(r:ag C y u m fp)(e:m.seq?=some l)(k:∀a vs f,(y.h.IsTuple a vs∨y.h.IsList a vs)→l.length≤big→aw C y vs.toList l f→f.Sublist fp→R (.ref a)):R u:=by
  cases m with
  |v x=>
    cases x with
    |tup x=>cases e;exact r.2.tup_e fun a vs _ h2 h3 h4=>k a vs [] (.inl h2) (lK.symm▸h3) h4.toM (List.nil_sublist _)
    |lst x=>cases e;exact r.2.lst_e fun a vs _ h2 h3 h4=>k a vs [] (.inr (aQ h2)) (lK.symm▸h3) h4.toM (List.nil_sublist _)
    |_=>exact ns e
  |tup x=>cases e;exact r.tup_e fun a vs _ h2 h3 h4=>k a vs fp (.inl h2) h3 h4 (.refl _)
  |lst x=>
    cases e
    obtain⟨a,vs,rfl,rfl,h2,h3,h4⟩:=r
    exact k a vs [] (.inr (aQ h2)) (lK.symm▸h3) h4.toM (List.nil_sublist _)
  |lstM x=>
    cases e
    obtain⟨a,vs,f,rfl,rfl,h2,h3,h4⟩:=r
    exact k a vs f (.inr (aQ h2)) h3 h4 (List.sublist_cons_self _ _)
  |_=>exact ns e
theorem aw.get{l:List M}:∀{us:List Value} {fp:List Addr} {j:Nat} {x:M},aw C y us l fp→l[j]?=some x→∃u f,us[j]?=some u∧ag C y u x f∧f.Sublist fp:=by
  induction l with
  |nil=>intro us fp j x _ e;exact ns e
  |cons m r ih=>
    intro us fp j x q e
    refine aw.cons_e (R:=fun us fp=>∃u f,us[j]?=some u∧ag C y u x f∧f.Sublist fp) q fun u ws f g h1 h2=>?_
    cases j with
    |zero=>cases e;exact⟨u,f,rfl,h1,List.sublist_append_left _ _⟩
    |succ j=>exact(ih h2 e).imp fun u h=>h.imp fun f h=>⟨h.1,h.2.1,h.2.2.trans (List.sublist_append_right _ _)⟩
theorem gQ{α β:Type}[BEq α][LawfulBEq α]{k:α}{v:β}{r:List (α×β)}:((k,v)::r).lookup k=some v:=by rw[List.lookup_cons,beq_self_eq_true]
theorem fV{α β:Type}[BEq α][LawfulBEq α]{k n:α}{v:β}{r:List (α×β)}(h:k≠n):((n,v)::r).lookup k=r.lookup k:=by rw[List.lookup_cons,beq_eq_false_iff_ne.mpr h]
theorem mQ{k n:String}(h:k≠n):Str.ofString k≠Str.ofString n:=fun e=>h (bB e)
theorem az.get{fs:List (String×M)}:∀{kvs:List (ae×Value)} {fp:List Addr} {k:String} {x:M},az C y kvs fs fp→fs.lookup k=some x→∃u f,kvs.lookup (Str.ofString k)=some u∧ag C y u x f∧f.Sublist fp:=by
  induction fs with
  |nil=>intro us fp j x _ e;exact ns e
  |cons p r ih=>
    intro kvs fp k x q e
    obtain⟨n,m⟩:=p
    refine az.cons_e (R:=fun kvs fp=>∃u f,kvs.lookup (Str.ofString k)=some u∧ag C y u x f∧f.Sublist fp) q fun u ws f g h1 h2=>?_
    by_cases hk:k=n
    · subst hk
      obtain rfl:=Option.some.inj (gQ.symm.trans e)
      exact⟨u,f,gQ,h1,List.sublist_append_left _ _⟩
    · exact(ih h2 ((fV hk).symm.trans e)).imp fun u h=>h.imp fun f h=>⟨(fV (mQ hk)).trans h.1,h.2.1,h.2.2.trans (List.sublist_append_right _ _)⟩
theorem az.none{fs:List (String×M)}:∀{kvs:List (ae×Value)} {fp:List Addr} {k:String},az C y kvs fs fp→fs.lookup k=none→kvs.lookup (Str.ofString k)=Option.none:=by
  induction fs with
  |nil=>intro us fp k q _;rw[q.1];rfl
  |cons p r ih=>
    intro kvs fp k q e
    obtain⟨n,m⟩:=p
    refine az.cons_e (R:=fun kvs _=>kvs.lookup (Str.ofString k)=Option.none) q fun u ws f g h1 h2=>?_
    by_cases hk:k=n
    · subst hk;rw[gQ]at e;exact ns e.symm
    · exact(fV (mQ hk)).trans (ih h2 ((fV hk).symm.trans e))
theorem sC{v:Value}{n:ae}(h:mJ v=some n):∃t,v=.str n t:=by
  cases v with
  |str s t=>cases h;exact⟨t,rfl⟩
  |_=>exact ns h
theorem Ent.cons_e{e:DictEntry}{es:List DictEntry}{R:List (ae×Value)→Prop}{kvs:List (ae×Value)}(h:Ent (e::es) kvs)(k:∀n t r,e.key=.str n t→Ent es r→R ((n,e.val)::r)):R kvs:=by
  cases kvs with
  |nil=>exact nomatch h
  |cons p r=>
    obtain⟨n,v⟩:=p
    have h1:=List.cons.inj h
    obtain⟨e1,e2⟩:=Prod.mk.inj h1.1
    obtain⟨t,ht⟩:=sC e1
    exact(show e.val=v from e2)▸k n t r ht h1.2
theorem Ent.nil_e{R:List (ae×Value)→Prop}{kvs:List (ae×Value)}(h:Ent [] kvs)(k:R []):R kvs:=by
  cases kvs with
  |nil=>exact k
  |cons p r=>exact nomatch h
theorem sD{name:ae}{e:DictEntry}{r:List DictEntry}{n:ae}{t:Tok}(h:e.key=.str n t):getL name (e::r)=if name=n then some (some e.val)else getL name r:=by
  unfold getL
  have hr:e.refKey=false:=by unfold DictEntry.refKey;rw[h]
  rw[List.find?_cons,List.any_cons,hr,h]
  show(match(match decide (n=name)with|true=>some e|false=>r.find? (·.key.isStr name))with|some en=>some (some en.val)|none=>if(false||r.any (·.refKey))=true then none else some none)=_
  by_cases q:n=name
  · rw[decide_eq_true q,if_pos q.symm]
  · rw[decide_eq_false q,if_neg (Ne.symm q),Bool.false_or];rfl
theorem Ent.get{es:List DictEntry}:∀{kvs:List (ae×Value)} {n:ae},Ent es kvs→getL n es=some (kvs.lookup n):=by
  induction es with
  |nil=>intro kvs n h;exact h.nil_e (R:=fun kvs=>getL n []=some (kvs.lookup n)) rfl
  |cons e es ih=>
    intro kvs n h
    refine h.cons_e (R:=fun kvs=>getL n (e::es)=some (kvs.lookup n)) fun m t r hk h=>?_
    rw[sD hk]
    by_cases q:n=m
    · subst q;rw[if_pos rfl,gQ]
    · rw[if_neg q,fV q];exact ih h
@[elab_as_elim] theorem ag.fields{m:M}{c:String}{fs:List (String×M)}{u:Value}{fp:List Addr}{R:Value→Prop}(r:ag C y u m fp)(e:m.fields?=some (c,fs))(k:∀a d kvs f,gJ C y c a d kvs→az C y kvs fs f→f.Sublist fp→R (.ref a)):R u:=by
  cases m with
  |v x=>
    cases x with
    |obj c' fs'=>cases e;exact r.2.obj_e fun a d kvs _ _ h3 h4=>k a d kvs [] h3 h4.toM (List.nil_sublist _)
    |_=>exact ns e
  |obj c' fs'=>
    cases e
    obtain⟨a,d,kvs,f,rfl,rfl,h2,h3⟩:=r
    exact k a d kvs f h2 h3 ((List.sublist_cons_self _ _).trans (List.sublist_cons_self _ _))
  |_=>exact ns e
end
end Mine.Internal
end
section
namespace Mine.Internal
open PySem PySem.W PySem.Calls PyProof.Rows
section
variable {G:Tab} {Φ:Phi} {σ σ':List M} {m:M} {R:M→Prop}
theorem gh{i:Int}(h:m.int?=some i):m=.v (.int i):=by
  cases m with
  |v x=>cases x<;>cases h;rfl
  |_=>exact ns h
theorem cN{i:Bool}(h:m.bool?=some i):m=.v (.bool i):=by
  cases m with
  |v x=>cases x<;>cases h;rfl
  |_=>exact ns h
theorem j6(h:m.isV=true):∃x,m=.v x:=by
  cases m with
  |v x=>exact⟨x,rfl⟩
  |_=>exact absurd h Bool.false_ne_true
theorem Dd{x:V}(h:m.v?=some x):m=.v x:=by
  cases m with
  |v x=>cases h;rfl
  |_=>exact ns h
@[elab_as_elim] theorem ux{e:E}(h:ev G Φ (.neg e) σ=some (m,σ'))(k:∀i,ev G Φ e σ=some (.v (.int i),σ')→R (.v (.int (-i)))):R m:=
  oP h fun m₁ σ₁ h1 h=>oM h fun i hi e=>by obtain⟨rfl,rfl⟩:=Prod.mk.inj e;exact k i (gh hi▸h1)
@[elab_as_elim] theorem uy{e:E}(h:ev G Φ (.not e) σ=some (m,σ'))(k:∀b,ev G Φ e σ=some (.v (.bool b),σ')→R (.v (.bool (!b)))):R m:=
  oP h fun m₁ σ₁ h1 h=>oM h fun i hi e=>by obtain⟨rfl,rfl⟩:=Prod.mk.inj e;exact k i (cN hi▸h1)
@[elab_as_elim] theorem uz{op:COp}{e₁ e₂:E}(h:ev G Φ (.cmp op e₁ e₂) σ=some (m,σ'))(k:∀m₁ σ₁ m₂ b,ev G Φ e₁ σ=some (m₁,σ₁)→ev G Φ e₂ σ₁=some (m₂,σ')→(m₁.isV||e₂.calm G.io)=true→bn op m₁ m₂=some b→R (.v (.bool b))):R m:=
  oP h fun m₁ σ₁ h1 h=>oI h fun hs h=>oP h fun m₂ σ₂ h2 h=>oM h fun b hb e=>by obtain⟨rfl,rfl⟩:=Prod.mk.inj e;exact k m₁ σ₁ m₂ b h1 h2 hs hb
@[elab_as_elim] theorem uA{op:Op}{e₁ e₂:E}(h:ev G Φ (.bin op e₁ e₂) σ=some (m,σ'))(k:∀m₁ σ₁ m₂ z,ev G Φ e₁ σ=some (m₁,σ₁)→ev G Φ e₂ σ₁=some (m₂,σ')→(m₁.isV||e₂.calm G.io)=true→a9 op m₁ m₂=some z→R z):R m:=
  oP h fun m₁ σ₁ h1 h=>oI h fun hs h=>oP h fun m₂ σ₂ h2 h=>oM h fun b hb e=>by obtain⟨rfl,rfl⟩:=Prod.mk.inj e;exact k m₁ σ₁ m₂ b h1 h2 hs hb
end
section
variable {C:Cx} {Φ:Phi} {d:Nat} {k:Kx} {y y':Y} {σ σ₁ σ₂ σ':List M} {t:Bool} {m m₁ m₂:M}
theorem Run.val{c:Bool}{u:Value}{N M N₂:List Addr}(R:Run C (k.on M) y σ c y' σ' N₂)(S:St C (k.on M) y σ)(r:Val C y t u m N)(h:(m.isV||c)=true)(hN:∀b∈N,b∈M:=by exact fun _ h=>h):Val C y' t u m N:=by
  rcases r with r|⟨ht,rfl,f,hf,r⟩
  · exact .inl (r.stay (R.stay S (.inr fun b hb=>List.mem_append_left _ (hN b hb))))
  · rcases Bool.or_eq_true_iff.mp h with h|h
    · obtain⟨x,rfl⟩:=j6 h
      exact .inl ⟨rfl,r.2.stay (R.stay S (fp:=[]) (.inr nofun))⟩
    · exact .inr ⟨ht,rfl,f,fun b hb=>(R.calm h).2.2▸hf b hb,r.stay (R.stay S (.inl h))⟩
theorem eQ{e₁ e₂:E}{p₁ p₂:PySem.Expr}{Q:Value→Value→Shared→Prop}(S₁:SE C Φ d e₁)(S₂:SE C Φ d e₂)(S:St C k y σ)(hB:Bud k.A d)(c₁:af C.G.io k.a.sx e₁ p₁=true)(c₂:af C.G.io k.a.sx e₂ p₂=true)
    (h₁:ev C.G Φ e₁ σ=some (m₁,σ₁))(h₂:ev C.G Φ e₂ σ₁=some (m₂,σ₂))(hs:(m₁.isV||e₂.calm C.G.io)=true)
    (h:∀u v y' N₁ N₂,Run C k y σ (e₁.calm C.G.io&&e₂.calm C.G.io) y' σ₂ (N₂++N₁)→Val C y' e₁.temp u m₁ N₁→Val C y' e₂.temp v m₂ N₂→Q u v y'.s):
    W C k (eval p₁ k.a.env) (fun u s₁=>W C k (eval p₂ k.a.env) (fun v s₂=>Q u v s₂) s₁) y.s:=
  S₁ S hB c₁ h₁ fun u y₁ N₁ R₁ r₁=>S₂ (k:=k.on N₁) R₁.st hB c₂ h₂ fun v y₂ N₂ R₂ r₂=>h u v y₂ N₁ N₂ (R₁.trans R₂) (R₂.val R₁.st r₁ hs) r₂
theorem AI{e:E}(S₁:SE C Φ d e):SE C Φ d (.neg e):=fun S hB hc he=>ux he fun i he hq=>Aq hc fun v z hc=>
  wpAny_UnaryOp (S₁ S hB hc he fun v y' N R r=>r.v.int_e fun t=>PyProof.Rows.neg_int (hq.v R (a4 ..) ⟨_,rfl⟩))
theorem AJ{e:E}(S₁:SE C Φ d e):SE C Φ d (.not e):=fun S hB hc he=>uy he fun b he hq=>uj hc fun v z hc=>
  wpAny_UnaryOp (S₁ S hB hc he fun v y' N R r=>(show v=.bool b from r.v)▸not_of (wpAny_truthy_bool (hq.v0 R rfl)))
theorem xk{x z:Int}{u v:Value}{N₁ N₂:List Addr}{t':Bool}{R:Value→Value→Prop}(r₁:Val C y t u m₁ N₁)(r₂:Val C y t' v m₂ N₂)(h1:m₁.int?=some x)(h2:m₂.int?=some z)(k:∀t k,R (.int x t) (.int z k)):R u v:=by
  obtain rfl:=gh h1
  obtain rfl:=gh h2
  obtain⟨t,rfl⟩:=r₁.v
  obtain⟨k',rfl⟩:=r₂.v
  exact k t k'
theorem nT{x:V}{u:Value}(r:aV C y u x):(u==.none)=x.isNone:=by
  cases x with
  |none=>rw[show u=.none from r];rfl
  |bool b=>rw[show u=.bool b from r];rfl
  |int i=>exact r.int_e fun t=>rfl
  |str i=>exact r.str_e fun t=>rfl
  |tup i=>exact r.tup_e fun _ _ _ _ _ _=>rfl
  |lst i=>exact r.lst_e fun _ _ _ _ _ _=>rfl
  |obj c i=>exact r.obj_e fun _ _ _ _ _ _ _=>rfl
theorem zx{g:Bool→Bool}{b:Bool}{u v:Value}{N₁ N₂:List Addr}{t':Bool}(r₁:Val C y t u m₁ N₁)(r₂:Val C y t' v m₂ N₂)(h:isN g m₁ m₂=some b):v=.none∧b=g (u==.none):=by
  refine oB h fun x hx h=>oB h fun z hz h=>oI h fun q e=>?_
  obtain rfl:=Dd hx
  obtain rfl:=Dd hz
  have hv:=nT r₂.v
  rw[q]at hv
  exact⟨eq_of_beq hv,by rw[nT r₁.v];exact(Option.some.inj e).symm⟩
theorem zy{g:Bool→Bool}{b:Bool}{R:Bool→Prop}(h:eqM g m₁ m₂=some b)(k:∀x z,m₁.toV=some x→m₂.toV=some z→x.plain 16=true→z.plain 16=true→R (g (x.eq z))):R b:=
  oB h fun x hx h=>oB h fun y hy h=>oI h fun q e=>Option.some.inj e▸k x y hx hy (a2_ q).1 (a2_ q).2
theorem j7{op:COp}{b:Bool}{u v:Value}{N₁ N₂:List Addr}{t':Bool}{Q E:Value→Shared→Prop}(hB:Bud k.A d)(r₁:Val C y t u m₁ N₁)(r₂:Val C y t' v m₂ N₂)(h:bn op m₁ m₂=some b)(hq:Q (.bool b) y.s):
    wpAny (model C.cl.prog C.cl.w) k.A (compareOp (aY op) u v) Q E y.s:=by
  have hu:k.A.units+64<cLine:=by have:=hB.units;unfold cLine;(exact Nat.le_succ_of_le (by trivial))
  have num:∀{f:Int→Int→Bool} {o:CmpOp},t9 f m₁ m₂=some b→(∀a c t j,Q (.bool (f a c)) y.s→wpAny (model C.cl.prog C.cl.w) k.A (compareOp o (.int a t) (.int c j)) Q E y.s)→wpAny (model C.cl.prog C.cl.w) k.A (compareOp o u v) Q E y.s:=
    fun h g=>oB h fun x hx h=>oM h fun z hz e=>xk (R:=fun u v=>wpAny _ _ (compareOp _ u v) Q E y.s) r₁ r₂ hx hz fun t j=>g x z t j (e▸hq)
  cases op with
  |lt=>exact num h fun _ _ _ _=>PyProof.Rows.lt_int
  |le=>exact num h fun _ _ _ _=>PyProof.Rows.le_int
  |gt=>exact num h fun _ _ _ _=>PyProof.Rows.gt_int
  |ge=>exact num h fun _ _ _ _=>PyProof.Rows.ge_int
  |eq=>
    exact zy (R:=fun b=>Q (.bool b) y.s→_) h (fun x z hx hz p1 p2 hq=>r₁.at_.elim fun _ r₁=>r₂.at_.elim fun _ r₂=>(r₁.toReads hx p1).elim fun as q1=>(r₂.toReads hz p2).elim fun bs q2=>eq_dataH q1 q2 (V.shaped p1) (V.shaped p2) hu (V.eq_py_.1 x z 16 16 p1 p2▸hq)) hq
  |ne=>
    exact zy (R:=fun b=>Q (.bool b) y.s→_) h (fun x z hx hz p1 p2 hq=>r₁.at_.elim fun _ r₁=>r₂.at_.elim fun _ r₂=>(r₁.toReads hx p1).elim fun as q1=>(r₂.toReads hz p2).elim fun bs q2=>ne_dataH q1 q2 (V.shaped p1) (V.shaped p2) hu (V.eq_py_.1 x z 16 16 p1 p2▸hq)) hq
  |is=>
    obtain⟨rfl,rfl⟩:=zx r₁ r₂ h
    exact is_none hq
  |isn=>
    obtain⟨rfl,rfl⟩:=zx r₁ r₂ h
    exact isNot_none hq
theorem j8{op:COp}{r:PySem.Expr}:behindInMarks (aY op) r=false:=by
  have h:(aY op==CmpOp.In||aY op==CmpOp.NotIn)=false:=by cases op<;>rfl
  cases r<;>first|rfl|(show(_&&(aY op==CmpOp.In||aY op==CmpOp.NotIn)&&_)=false;rw[h,Bool.and_false,Bool.false_and])
theorem AK{op:COp}{e₁ e₂:E}(S₁:SE C Φ d e₁)(S₂:SE C Φ d e₂):SE C Φ d (.cmp op e₁ e₂):=fun S hB hc he=>uz he fun m₁ σ₁ m₂ b h1 h2 hs hb hq=>uk hc fun l r z hc1 hc2=>
  wpAny_Compare1 (eQ S₁ S₂ S hB hc1 hc2 h1 h2 hs fun u v y' N₁ N₂ R r₁ r₂=>j7 hB r₁ r₂ hb (hq.v0 R rfl)) j8
end
end Mine.Internal
end
section
namespace Mine.Internal
open PySem PySem.W PySem.Calls PyProof.Rows
section
variable {prog:Program} {w:World} {A:Around} {E:Value→Shared→Prop} {s:Shared} {Q:Value→Shared→Prop}
noncomputable abbrev newL(vs:List Value):Obj:={ cls:=.type "list",data:=.seq vs.toArray }
theorem sE{l b:Addr}{vs ws:List Value}(hl:s.heap.IsList l vs.toArray)(hb:s.heap.IsList b ws.toArray)(hsz:vs.length+ws.length≤sizeLine)(h:Q (.ref s.heap.objs.size) { s with heap:=s.heap.push (newL (vs++ws)) }):
    wpAny (model prog w) A (binaryOp .Add (.ref l) (.ref b)) Q E s:=by
  obtain⟨⟨c,dd,da,sl⟩,ho,hc,n,hd⟩:=id hl
  obtain⟨⟨c2,dd2,da2,sl2⟩,ho2,hc2,n2,hd2⟩:=id hb
  simp only at hc hd hc2 hd2
  subst hc hd hc2 hd2
  refine concat_meets ⟨_,ho,rfl⟩ ⟨_,ho2,rfl⟩ noFill_list_add seq_list_add PySem.F.slot_list_add PySem.F.entry_list_add (PySem.F.args_list_add_2 _ _) (list_addW l b vs.toArray ws.toArray n n2 dd dd2 sl sl2 (by simpa using hsz)) ⟨ho,ho2,?_⟩
  have e:vs.toArray++ws.toArray=(vs++ws).toArray:=by simp
  rw[e];exact h
theorem uB(vs:List Value)(k:Nat):List.foldl (fun x y=>x++y) #[] (List.replicate (if vs.toArray.isEmpty=true then 0 else k) vs.toArray)=((List.replicate k vs).flatten).toArray:=by
  have gen:∀(k:Nat) (z:Array Value),List.foldl (fun x y=>x++y) z (List.replicate k vs.toArray)=z++((List.replicate k vs).flatten).toArray:=by
    intro k
    induction k with
    |zero=>intro z;simp
    |succ k ih=>intro z;rw[List.replicate_succ,List.foldl_cons,ih,List.replicate_succ,List.flatten_cons];simp
  cases vs with
  |nil=>simp
  |cons v vs=>rw[if_neg (by simp),gen];simp
theorem sF{l:Addr}{vs:List Value}{k:Nat}{x:Int}{u:Tok}(hl:s.heap.get? l=some { cls:=.type "list",dict:=none,data:=.seq vs.toArray k,slots:= #[] })(hx:x.natAbs<2 ^ 40)(hsz:vs.length*x.toNat≤big)
    (h:Q (.ref s.heap.objs.size) { s with heap:=s.heap.push (newL (List.replicate x.toNat vs).flatten) }):wpAny (model prog w) A (binaryOp .Mult (.ref l) (.int x u)) Q E s:=by
  have hsz':vs.toArray.size*x.toNat≤2 ^ 24:=Nat.le_trans (by simpa using hsz) (by decide)
  refine wpAny_binaryOp_repeat_ref (T:="list") (U:="int") (by decide) ⟨_,hl,rfl⟩ (fun s'=>typeIs_int s' x u) noFill_list_mul F.fills_int_mul F.slot_int_rmul repeat_list F.slot_int_index.lookup
    (call_meets F.slot_int_rmul (typeIs_int s x u) F.entry_int_rmul (F.args_int_rmul_2 _ _) (int___rmul___int_list x u l vs.toArray k)
      ⟨hl,rfl,⟨_,hl,rfl⟩,call_meets F.slot_list_mul ⟨_,hl,rfl⟩ F.entry_list_mul (F.args_list_mul_2 _ _)
        (AutoListH.list___mul___list_int_3 l vs.toArray k x u (by simp[Builtin.List.listFitsIndex];(exact⟨(by first|assumption|omega),(by first|assumption|omega)⟩)) (by(exact Nat.not_le.mpr (by first|assumption|omega))) (by simp[Builtin.List.listTooLong,sizeLine];simp at hsz';(assumption))) ⟨hl,?_⟩⟩)
  rw[uB];exact h
end
section
variable {C:Cx} {Φ:Phi} {d:Nat} {k:Kx} {y y':Y} {σ σ':List M} {c t:Bool} {m₁ m₂:M} {Q E₀:Value→Shared→Prop}
noncomputable def Y.push(y:Y)(o:Obj):Y:=y.to { y.s with heap:=y.h.push o }
theorem cn(y:Y)(o:Obj):Mv y (y.push o) []:=⟨⟨_,_,rfl⟩,fun _ _ _ e=>Heap.get?_push_of_some _ e,fun _ h=>h⟩
theorem d6(y:Y):y.no y.h.objs.size:=by
  unfold Y.no
  cases e:y.h.get? y.h.objs.size with
  |none=>rfl
  |some o=>exact absurd (Heap.lt_size e) (Nat.lt_irrefl _)
theorem cO(y:Y)(o:Obj)(hf:o.isFreed=false):(y.push o).h.get? y.h.objs.size=some o:=Heap.get?_push_size _ hf
theorem Run.push{N:List Addr}(R:Run C k y σ c y' σ' N)(o:Obj)(hf:o.isFreed=false):Run C k y σ c (y'.push o) σ' (y'.h.objs.size::N):=R.new1 (cn y' o) (d6 y') ⟨_,cO y' o hf⟩
theorem d5.newL{l:List V}{vs:List Value}{N:List Addr}(hq:d5 C k y σ c t (.lst l) σ' Q)(R:Run C k y σ c y' σ' N)(hz:l.length≤big)(r:al C y' vs l):Q (.ref y'.h.objs.size) { y'.s with heap:=y'.h.push (newL vs) }:=
  hq _ _ _ (R.drop0.push (Mine.Internal.newL vs) rfl) (.inl ⟨_,vs.toArray,rfl,rfl,⟨0,cO y' _ rfl⟩,hz,r.stay (cn y' (Mine.Internal.newL vs)).stay0⟩)
theorem al.append{l:List V}:∀{l':List V} {us us':List Value},al C y us l→al C y us' l'→al C y (us++us') (l++l'):=by
  induction l with
  |nil=>intro l' us us' e r;rw[show us=[]from e];exact r
  |cons x l ih=>intro l' us us' e r;exact al.cons_e (R:=fun us=>al C y (us++us') (x::l++l')) e fun u ws h1 h2=>⟨u,ws++us',rfl,h1,ih h2 r⟩
theorem al.flatRep{l:List V}{us:List Value}(r:al C y us l)(n:Nat):al C y (List.replicate n us).flatten (List.replicate n l).flatten:=by
  induction n with
  |zero=>rfl
  |succ n ih=>exact r.append ih
theorem pK{i:Int}(h:i.natAbs<2 ^ 40):Builtin.Int.intBits i≤64:=intBits_le_64 (by omega) (by omega)
theorem Val.list{m:M}{l:List V}{u:Value}{N:List Addr}{R:Value→Prop}(r:Val C y t u m N)(e:m.list?=some l)(k:∀a vs,y.h.PlainList a vs→l.length≤big→al C y vs.toList l→R (.ref a)):R u:=
  r.at_.elim fun _ r=>r.plain e fun a vs h1 h2 h3 _=>k a vs h1 h2 h3
theorem mS{l q:List V}{R:List V→Prop}(h:bG l=some q)(k:l.length≤big→R l):R q:=oI h fun hl e=>Option.some.inj e▸k hl
theorem sG{z:M}{u v:Value}{N₁ N₂:List Addr}{t':Bool}(r₁:Val C y t u m₁ N₁)(r₂:Val C y t' v m₂ N₂)(h:(m₁.list?.bind fun x=>m₂.list?.bind fun y=>(bG (x++y)).map M.lst)=some z)
    (q2:∀l vs,z=.lst l→l.length≤big→al C y vs l→Q (.ref y.h.objs.size) { y.s with heap:=y.h.push (newL vs) }):wpAny (model C.cl.prog C.cl.w) k.A (binaryOp .Add u v) Q E₀ y.s:=by
  refine oB h fun x hx h=>oB h fun z hz h=>oM h fun q hq e=>r₁.list (R:=fun u=>wpAny _ _ (binaryOp _ u v) Q E₀ y.s) hx fun a vs i1 z1 q1=>r₂.list (R:=fun v=>wpAny _ _ (binaryOp _ _ v) Q E₀ y.s) hz fun b ws i2 z2 q3=>mS (R:=fun q=>M.lst q=_→_) hq (fun hl e=>?_) e
  refine sE (vs:=vs.toList) (ws:=ws.toList) (aQ i1) (aQ i2) ?_ (q2 _ _ e.symm hl (q1.append q3))
  rw[q1.length,q3.length,←List.length_append]
  exact Nat.le_trans hl (by decide)
theorem uC{l:List V}{n:Nat}:(List.replicate n l).flatten.length=l.length*n:=by rw[List.length_flatten,List.map_replicate,List.sum_replicate_nat,Nat.mul_comm]
theorem uD{l:List V}{z:Int}{u v:Value}{N₁ N₂:List Addr}{t':Bool}(r₁:Val C y t u (.lst l) N₁)(r₂:Val C y t' v (.v (.int z)) N₂)(hq:l.length*z.toNat≤big∧z.natAbs<2 ^ 40)
    (q2:∀vs,(List.replicate z.toNat l).flatten.length≤big→al C y vs (List.replicate z.toNat l).flatten→Q (.ref y.h.objs.size) { y.s with heap:=y.h.push (newL vs) }):wpAny (model C.cl.prog C.cl.w) k.A (binaryOp .Mult u v) Q E₀ y.s:=by
  refine r₁.list (R:=fun u=>wpAny _ _ (binaryOp _ u v) Q E₀ y.s) rfl fun a vs i1 z1 q1=>r₂.v.int_e (R:=fun v=>wpAny _ _ (binaryOp _ _ v) Q E₀ y.s) fun t=>?_
  obtain⟨n,hl⟩:=i1
  refine sF (vs:=vs.toList) hl hq.2 (by rw[q1.length];exact hq.1) (q2 _ ?_ (q1.flatRep _))
  rw[uC];exact hq.1
theorem AL{a b z:M}{R:Prop}(h:t8 a b=some z)(k1:∀x y,a.int?=some x→b.int?=some y→z=.v (.int (x+y))→R)(k2:(a.list?.bind fun x=>b.list?.bind fun y=>(bG (x++y)).map M.lst)=some z→R):R:=by
  unfold t8 at h
  cases hx:a.int? with
  |some x=>rw[hx]at h;exact oM h fun y hy e=>k1 x y hx hy e.symm
  |none=>rw[hx]at h;exact k2 h
theorem AM{a b z:M}{R:Prop}(h:C2 a b=some z)(k1:∀x y:Int,a.int?=some x→b.int?=some y→x.natAbs<2 ^ 40∧y.natAbs<2 ^ 40→z=.v (.int (x*y))→R)
    (k2:∀l y,a=.lst l→b=.v (.int y)→l.length*y.toNat≤big∧y.natAbs<2 ^ 40→z=.lst (List.replicate y.toNat l).flatten→R):R:=by
  refine oB h fun y hy h=>?_
  cases a with
  |lst l=>exact oI h fun q e=>k2 _ y rfl (gh hy) q (Option.some.inj e).symm
  |v x=>exact oB h fun x hx h=>oI h fun q e=>k1 x y hx hy q (Option.some.inj e).symm
  |_=>exact ns h
theorem j9{f:Int→Int→Option M}{a b z:M}{R:Prop}(h:jH f a b=some z)(k:∀x y,a.int?=some x→b.int?=some y→f x y=some z→R):R:=
  oB h fun x hx h=>oB h fun y hy h=>k x y hx hy h
theorem AN{op:Op}{z:M}{u v:Value}{N₁ N₂:List Addr}{t':Bool}(r₁:Val C y t u m₁ N₁)(r₂:Val C y t' v m₂ N₂)(h:a9 op m₁ m₂=some z)
    (q1:∀i t n,z=.v (.int i)→Q (.int i t) { y.s with toks:=n })(q2:∀l vs,z=.lst l→l.length≤big→al C y vs l→Q (.ref y.h.objs.size) { y.s with heap:=y.h.push (newL vs) }):
    wpAny (model C.cl.prog C.cl.w) k.A (binaryOp (Ag op) u v) Q E₀ y.s:=by
  have two:∀{x j:Int} {i:Int} {o:Operator},z=.v (.int i)→m₁.int?=some x→m₂.int?=some j→(∀t n,(∀tk n',Q (.int i tk) { y.s with toks:=n' })→wpAny (model C.cl.prog C.cl.w) k.A (binaryOp o (.int x t) (.int j n)) Q E₀ y.s)→wpAny (model C.cl.prog C.cl.w) k.A (binaryOp o u v) Q E₀ y.s:=
    fun e hx hy g=>xk (R:=fun u v=>wpAny _ _ (binaryOp _ u v) Q E₀ y.s) r₁ r₂ hx hy fun t n=>g t n fun tk n'=>q1 _ tk n' e
  cases op with
  |add=>exact AL h (fun x z hx hy e=>two e hx hy fun t n q=>PyProof.Rows.add_int (q _ _)) fun h=>sG r₁ r₂ h q2
  |sub=>exact j9 h fun x z hx hy e=>two (Option.some.inj e).symm hx hy fun t n q=>PyProof.Rows.sub_int (q _ _)
  |mul=>exact AM h (fun x z hx hy hq e=>two e hx hy fun t n q=>PyProof.Rows.mul_int (q _ _) (IntMulOk.of_left (pK hq.1))) fun l z e e' hq ez=>uD (e▸r₁) (e'▸r₂) hq fun vs=>q2 _ vs ez
  |fdiv=>exact j9 h fun x z hx hy h=>oI h fun hq e=>two (Option.some.inj e).symm hx hy fun t n q=>PyProof.Rows.floordiv_int hq.1 (q _ _) (.inl (PyProof.noPylong_small (by have:=hq.2;(exact Nat.lt_of_lt_of_le (by trivial) (Nat.le_add_left _ _)))))
  |mod=>
    refine j9 h fun x z hx hy h=>?_
    by_cases hq:z=0
    · rw[if_pos hq]at h;exact ns h
    · rw[if_neg hq]at h
      exact two (Option.some.inj h).symm hx hy fun t n q=>PyProof.Rows.mod_int' hq (q _ _)
  |pow=>
    refine j9 h fun x z hx hy h=>oI h fun hq e=>?_
    obtain⟨rfl,rfl⟩:=hq
    exact two (Option.some.inj e).symm hx hy fun t n q=>PyProof.Rows.pow_int (by decide) (by decide +kernel) (q _ _)
theorem AO{op:Op}{e₁ e₂:E}(S₁:SE C Φ d e₁)(S₂:SE C Φ d e₂):SE C Φ d (.bin op e₁ e₂):=fun S hB hc he=>uA he fun m₁ σ₁ m₂ z h1 h2 hs hz hq=>Ap hc fun l r pos hc1 hc2=>
  wpAny_BinOp (eQ S₁ S₂ S hB hc1 hc2 h1 h2 hs fun u v y' N₁ N₂ R r₁ r₂=>AN r₁ r₂ hz (fun i t n e=>(e▸hq).v R (a4 ..) ⟨_,rfl⟩) fun l vs e hl rv=>(e▸hq).newL R hl rv)
end
end Mine.Internal
end
section
namespace Mine.Internal
open PySem PySem.W PySem.Calls PyProof.Rows
noncomputable def ST(C:Cx)(Φ:Phi)(d:Nat)(e:E):Prop:=∀{k:Kx} {y:Y} {σ:List M} {p:PySem.Expr} {m:M} {σ':List M} {b:Bool} {Q:Bool→Shared→Prop},
  St C k y σ→Bud k.A d→af C.G.io k.a.sx e p=true→ev C.G Φ e σ=some (m,σ')→m.bool?=some b→(∀y',Run C k y σ (e.calm C.G.io) y' σ' []→Q b y'.s)→W C k (isTrue p k.a.env (eval p k.a.env)) Q y.s
noncomputable def SB(C:Cx)(Φ:Phi)(d:Nat)(e:E):Prop:=SE C Φ d e∧ST C Φ d e
section
variable {C:Cx} {Φ:Phi} {d:Nat} {k:Kx} {y y':Y} {σ σ':List M} {m:M} {A:Around} {s:Shared}
theorem bH{e:E}(S₁:SE C Φ d e)(hp:∀(p:PySem.Expr) (x:Sx),af C.G.io x e p=true→∀env whole,isTrue p env whole=(do let v ←whole;standAt p.pos;holding [v] (truthy v))):ST C Φ d e:=fun S hB hc he hb hq=>
  wpAny_isTrue_value (S₁ S hB hc he fun v y' N R r=>(show v=.bool _ from(cN hb▸r).v)▸wpAny_truthy_bool (hq y' R.drop0)) (hp _ _ hc _ _)
theorem AP{e:E}(S₁:ST C Φ d e):ST C Φ d (.not e):=fun S hB hc he=>uy he fun b he hb hq=>uj hc fun v z hc=>
  wpAny_isTrue_Not (S₁ S hB hc he rfl fun y' R=>Option.some.inj hb▸hq y' R)
theorem AQ{op:COp}{e₁ e₂:E}(S₁:SE C Φ d e₁)(S₂:SE C Φ d e₂):ST C Φ d (.cmp op e₁ e₂):=fun S hB hc he=>uz he fun m₁ σ₁ m₂ b h1 h2 hs hb hbb hq=>uk hc fun l r z hc1 hc2=>
  wpAny_isTrue_Compare1 (eQ S₁ S₂ S hB hc1 hc2 h1 h2 hs fun u v y' N₁ N₂ R r₁ r₂=>j7 hB r₁ r₂ hb (wpAny_truthy_bool (Option.some.inj hbb▸hq y' R.drop0))) j8
noncomputable def mU:BoolOp→Bool→Bool
  |.And,b=>b
  |.Or,b=>!b
theorem i7{op:BoolOp}{pos:Pos}{x:Sem Value}{l:List (Sem Value)}{Q:Value→Shared→Prop}{E₀:Value→Shared→Prop}{M:Model}(hl:l≠[])(h:wpAny M A x (fun v s₁=>wpAny M A (truthy v) (fun t s₂=>if mU op t=true then wpAny M A (boolOp pos op l) Q E₀ s₂ else Q v s₂) E₀ s₁) E₀ s):
    wpAny M A (boolOp pos op (x::l)) Q E₀ s:=by
  obtain⟨z,r,rfl⟩:=List.exists_cons_of_ne_nil hl
  refine wpAny_bind (wpAny_mono h (fun v s₁ h₁=>wpAny_bind (wpAny_standAt (wpAny_bind (wpAny_holding (wpAny_mono h₁ (fun t s₂ h₂=>?_) fun _ _ x=>x))))) fun _ _ x=>x)
  cases op<;>cases t<;>first|exact h₂|exact wpAny_pure h₂
theorem dx{e:PySem.Expr}{r:List PySem.Expr}{env:Env}:evalEach (e::r) env=eval e env::evalEach r env:=rfl
theorem d7{op:BoolOp}{x:PySem.Expr}{r:List PySem.Expr}{env:Env}{Q:Bool→Shared→Prop}{E₀:Value→Shared→Prop}{M:Model}
    (h:wpAny M A (isTrue x env (eval x env)) (fun t s₁=>if mU op t=true then wpAny M A (allTrue op r env) Q E₀ s₁ else Q t s₁) E₀ s):wpAny M A (allTrue op (x::r) env) Q E₀ s:=by
  refine wpAny_bind (wpAny_mono h (fun t s₁ h₁=>?_) fun _ _ x=>x)
  cases op<;>cases t<;>first|exact h₁|exact wpAny_pure h₁
theorem mV{op:BoolOp}{t:Bool}{env:Env}{Q:Bool→Shared→Prop}{E₀:Value→Shared→Prop}{M:Model}(h:Q t s):if mU op t=true then wpAny M A (allTrue op [] env) Q E₀ s else Q t s:=by
  split
  · rename_i q
    refine wpAny_pure ?_
    cases op<;>cases t<;>first|exact h|exact absurd q Bool.false_ne_true
  · exact h
noncomputable def evB(op:BoolOp)(G:Tab)(Φ:Phi)(l:List E)(σ:List M):Option (M×List M):=match op with|.And=>qK G Φ l σ|.Or=>w7 G Φ l σ
theorem xl{op:BoolOp}{G:Tab}{e:E}(h:evB op G Φ [e] σ=some (m,σ')):∃b,m=.v (.bool b)∧ev G Φ e σ=some (.v (.bool b),σ'):=by
  have h:((ev G Φ e σ).bind fun p=>p.1.bool?.bind fun _=>some p)=some (m,σ'):=by cases op<;>exact h
  refine oB h fun p h1 h=>oB h fun b hb e=>⟨b,?_⟩
  cases e
  exact⟨cN hb,cN hb▸h1⟩
theorem uE{op:BoolOp}{G:Tab}{e x:E}{r:List E}(h:evB op G Φ (e::x::r) σ=some (m,σ')):∃b σ₁,ev G Φ e σ=some (.v (.bool b),σ₁)∧(if mU op b=true then evB op G Φ (x::r) σ₁ else some (.v (.bool b),σ₁))=some (m,σ'):=by
  have h:((ev G Φ e σ).bind fun p=>p.1.bool?.bind fun b=>if mU op b=true then evB op G Φ (x::r) p.2 else some p)=some (m,σ'):=by
    cases op with
    |And=>exact h
    |Or=>refine Eq.trans (congrArg (Option.bind _) (funext fun p=>congrArg (Option.bind _) (funext fun b=>?_))) h;cases b<;>rfl
  refine oB h fun p h1 h=>oB h fun b hb h=>⟨b,p.2,?_,?_⟩
  · rw[←cN hb];exact h1
  · rw[←cN hb];exact h
@[elab_as_elim] theorem zA{op:BoolOp}{G:Tab}{e:E}{r:List E}{R:M→Prop}(h:evB op G Φ (e::r) σ=some (m,σ'))(k1:∀b,r=[]→ev G Φ e σ=some (.v (.bool b),σ')→R (.v (.bool b)))
    (k2:∀b σ₁,r≠[]→mU op b=true→ev G Φ e σ=some (.v (.bool b),σ₁)→evB op G Φ r σ₁=some (m,σ')→R m)(k3:∀b,r≠[]→mU op b=false→ev G Φ e σ=some (.v (.bool b),σ')→R (.v (.bool b))):R m:=by
  cases r with
  |nil=>
    replace h:=xl h
    obtain⟨b,rfl,h⟩:=h
    exact k1 b rfl h
  |cons x r=>
    replace h:=uE h
    obtain⟨b,σ₁,h1,h⟩:=h
    cases hg:mU op b with
    |true=>rw[if_pos hg]at h;exact k2 b σ₁ (List.cons_ne_nil _ _) hg h1 h
    |false=>
      rw[if_neg (hg▸Bool.false_ne_true)]at h
      cases h
      exact k3 b (List.cons_ne_nil _ _) hg h1
theorem rl{op:BoolOp}{G:Tab}{σ:List M}{P:Prop}(h:evB op G Φ [] σ=some (m,σ')):P:=by cases op<;>exact ns h
theorem uF{op:BoolOp}{G:Tab}{l:List E}:∀{σ σ':List M} {m:M},evB op G Φ l σ=some (m,σ')→∃b,m=.v (.bool b):=by
  induction l with
  |nil=>intro σ σ' m h;exact rl h
  |cons e r ih=>intro σ σ' m h;exact zA h (fun b _ _=>⟨b,rfl⟩) (fun b σ₁ _ _ _ h=>ih h) fun b _ _ _=>⟨b,rfl⟩
noncomputable def SL(C:Cx)(Φ:Phi)(d:Nat)(op:BoolOp)(l:List E):Prop:=∀{k:Kx} {y:Y} {σ:List M} {ps:List PySem.Expr} {pos:Pos} {m:M} {b:Bool} {σ':List M},
  St C k y σ→Bud k.A d→a0 C.G.io k.a.sx l ps=true→evB op C.G Φ l σ=some (m,σ')→m.bool?=some b→
  (∀{Q},(∀y',Run C k y σ (E.calms C.G.io l) y' σ' []→Q (.bool b) y'.s)→W C k (boolOp pos op (evalEach ps k.a.env)) Q y.s)∧
  (∀{Q},(∀y',Run C k y σ (E.calms C.G.io l) y' σ' []→Q b y'.s)→W C k (allTrue op ps k.a.env) Q y.s)
theorem uG{op:BoolOp}:SL C Φ d op []:=fun _ _ _ he=>rl he
theorem rn{io:String→List Bool}{x:Sx}{r:List E}{q:List PySem.Expr}{env:Env}(hr:r≠[])(h:a0 io x r q=true):evalEach q env≠[]:=by
  obtain⟨e,r,rfl⟩:=List.exists_cons_of_ne_nil hr
  exact eO h fun p q _ _=>dx▸List.cons_ne_nil _ _
theorem rq{op:BoolOp}{e:E}{r:List E}(S₁:SB C Φ d e)(S₂:SL C Φ d op r):SL C Φ d op (e::r):=fun{k y σ ps pos m b σ'} S hB hc he=>eO hc fun p q hc1 hc2=>by
  have cm:E.calms C.G.io (e::r)=true→e.calm C.G.io=true:=fun h=>(a2_ h).1
  refine zA he (fun b' hr h1 hb=>?_) (fun b' σ₁ hr hg h1 he hb=>?_) fun b' hr hg h1 hb=>?_
  · obtain rfl:=Option.some.inj hb
    subst hr
    exact iE hc2 ⟨fun hq=>S₁.1 S hB hc1 h1 fun v y' N R r=>(show v=.bool b' from r.v)▸hq y' (R.drop0.mono cm),fun hq=>d7 (S₁.2 S hB hc1 h1 rfl fun y' R=>mV (hq y' (R.mono cm)))⟩
  · rw[dx]
    exact⟨fun hq=>i7 (rn hr hc2) (S₁.1 S hB hc1 h1 fun v y' N R r=>(show v=.bool b' from r.v)▸wpAny_truthy_bool ((if_pos hg).symm▸(S₂ (k:=k) R.drop0.st hB hc2 he hb).1 fun y'' R'=>hq y'' (R.drop0.then0 R' fun h=>h))),
      fun hq=>d7 (S₁.2 S hB hc1 h1 rfl fun y' R=>(if_pos hg).symm▸(S₂ (k:=k) (pos:=pos) R.st hB hc2 he hb).2 fun y'' R'=>hq y'' (R.then0 R' fun h=>h))⟩
  · obtain rfl:=Option.some.inj hb
    have hg':¬mU op b'=true:=hg▸Bool.false_ne_true
    rw[dx]
    exact⟨fun hq=>i7 (rn hr hc2) (S₁.1 S hB hc1 h1 fun v y' N R r=>(show v=.bool b' from r.v)▸wpAny_truthy_bool ((if_neg hg').symm▸hq y' (R.drop0.mono cm))),
      fun hq=>d7 (S₁.2 S hB hc1 h1 rfl fun y' R=>(if_neg hg').symm▸hq y' (R.mono cm))⟩
theorem ry{op:BoolOp}{e:E}{l:List E}(S₁:SL C Φ d op l)(hk:∀{x:Sx} {p:PySem.Expr} {R:PySem.Expr→Prop},af C.G.io x e p=true→(∀vs z,a0 C.G.io x l vs=true→R (.BoolOp op vs z))→R p)(hv:∀σ,ev C.G Φ e σ=evB op C.G Φ l σ)(hm:e.calm C.G.io=E.calms C.G.io l):SB C Φ d e:=
  ⟨fun{k y σ p m σ' Q} S hB hc he hq=>hk (R:=fun p=>W C k (eval p k.a.env) Q y.s) hc fun vs z hc=>by
    rw[hv]at he
    obtain⟨b,rfl⟩:=uF he
    rw[hm]at hq
    exact(S₁ (pos:=z) S hB hc he rfl).1 fun y' R=>hq.v0 R rfl,
  fun{k y σ p m σ' b Q} S hB hc he hb hq=>hk (R:=fun p=>W C k (isTrue p k.a.env (eval p k.a.env)) Q y.s) hc fun vs z hc=>wpAny_isTrue_BoolOp ((S₁ (pos:=z) S hB hc ((hv σ).symm.trans he) hb).2 (hm▸hq))⟩
theorem AR{l:List E}(S₁:SL C Φ d .And l):SB C Φ d (.and l):=ry S₁ (fun h k=>Ar h k) (fun _=>rfl) rfl
theorem De{l:List E}(S₁:SL C Φ d .Or l):SB C Φ d (.or l):=ry S₁ (fun h k=>C9 h k) (fun _=>rfl) rfl
end
end Mine.Internal
end
section
namespace Mine.Internal
open PySem PySem.W PySem.Calls PyProof.Rows
section
variable {C:Cx} {Φ:Phi} {d:Nat} {k:Kx} {y y':Y} {σ σ' σ₁:List M} {m:M} {Q:Value→Shared→Prop} {c c₁ c₂ t t':Bool}
theorem d5.after(hq:d5 C k y σ c t m σ' Q)(R:Run C k y σ c₁ y' σ₁ [])(h:c=true→(c₁&&c₂)=true)(ht:t=true→t'=true):d5 C k y' σ₁ c₂ t' m σ' Q:=
  fun v y'' N R' r=>hq v y'' N (R.then0 R' h) (r.elim .inl fun r=>.inr ⟨Bool.eq_false_iff.mpr fun q=>absurd (ht q) (r.1▸Bool.false_ne_true),r.2⟩)
theorem uH{e₀ e₁ e₂:E}{G:Tab}{R:Prop}(h:ev G Φ (.ite e₀ e₁ e₂) σ=some (m,σ'))(k1:∀σ₁,ev G Φ e₀ σ=some (.v (.bool true),σ₁)→ev G Φ e₁ σ₁=some (m,σ')→R)(k2:∀σ₁,ev G Φ e₀ σ=some (.v (.bool false),σ₁)→ev G Φ e₂ σ₁=some (m,σ')→R):R:=
  oP h fun m₁ σ₁ h1 h=>oB h fun b hb h=>by
    obtain rfl:=cN hb
    cases b with
    |true=>exact k1 σ₁ h1 h
    |false=>exact k2 σ₁ h1 h
theorem a13{a b c:Bool}(h:(a&&b&&c)=true):(a&&b)=true:=(a2_ h).1
theorem a12{a b c:Bool}(h:(a&&b&&c)=true):(a&&c)=true:=Bool.and_eq_true_iff.mpr ⟨(a3_ h).1,(a3_ h).2.2⟩
theorem AS{e₀ e₁ e₂:E}(S₀:SB C Φ d e₀)(S₁:SB C Φ d e₁)(S₂:SB C Φ d e₂):SB C Φ d (.ite e₀ e₁ e₂):=
  ⟨fun S hB hc he hq=>ul hc fun p u v z hc0 hc1 hc2=>wpAny_IfExp (uH he
    (fun σ₁ h0 h1=>S₀.2 S hB hc0 h0 rfl fun y' R=>S₁.1 R.st hB hc1 h1 (hq.after R a13 fun h=>(a2_ h).1))
    (fun σ₁ h0 h1=>S₀.2 S hB hc0 h0 rfl fun y' R=>S₂.1 R.st hB hc2 h1 (hq.after R a12 fun h=>(a2_ h).2))),
  fun S hB hc he hb hq=>ul hc fun p u v z hc0 hc1 hc2=>uH he
    (fun σ₁ h0 h1=>wpAny_bind (S₀.2 S hB hc0 h0 rfl fun y' R=>S₁.2 R.st hB hc1 h1 hb fun y'' R'=>hq y'' (R.then0 R' a13)))
    (fun σ₁ h0 h1=>wpAny_bind (S₀.2 S hB hc0 h0 rfl fun y' R=>S₂.2 R.st hB hc2 h1 hb fun y'' R'=>hq y'' (R.then0 R' a12)))⟩
theorem Val.own{e:E}{u:Value}{N:List Addr}(r:Val C y e.temp u m N)(hs:ga e m=true):ag C y u m N:=by
  refine r.elim id fun r=>?_
  have hs:(e.temp||m.isV)=true:=hs
  rw[r.1,Bool.false_or]at hs
  obtain⟨x,rfl⟩:=j6 hs
  exact r.2.1▸r.2.2.elim fun f r=>⟨rfl,r.2.2⟩
@[elab_as_elim] theorem uI{e:E}{G:Tab}{R:M→Prop}(h:ev G Φ (.frz e) σ=some (m,σ'))(k:∀m₁ x,ev G Φ e σ=some (m₁,σ')→ga e m₁=true→m₁.toV=some x→R (.v x)):R m:=
  oP h fun m₁ σ₁ h1 h=>oI h fun hs h=>oM h fun x hx e=>by obtain⟨rfl,rfl⟩:=Prod.mk.inj e;exact k m₁ x h1 hs hx
theorem AT{e:E}(S₁:SE C Φ d e):SE C Φ d (.frz e):=fun S hB hc he=>uI he fun m₁ x h1 hs hx hq=>
  S₁ S hB (um hc) h1 fun v y' N R r=>hq v (y'.fz N) [] (Run.freeze (N:=[]) ((List.append_nil N).symm▸R)) (.mk ((r.own hs).frz hx))
theorem eR{x:Sx}{io:String→List Bool}{e:E}{p:PySem.Expr}(h:af io x e p=true)(o i:Value):subscripted p false o i=operate [o,i] (getItem o i):=by
  cases p<;>first|rfl|skip
  cases e<;>exact absurd h Bool.false_ne_true
theorem Df{j:Int}{n i:Nat}{R:Nat→Prop}(h:ix j n=some i)(k1:0≤j→j<n→R j.toNat)(k2:j<0→0≤j+n→R (j+n).toNat):R i:=by
  unfold ix at h
  by_cases h0:0≤j
  · rw[if_pos h0]at h
    exact oI h fun h1 e=>Option.some.inj e▸k1 h0 h1
  · rw[if_neg h0]at h
    exact oI h fun h1 e=>Option.some.inj e▸k2 (Int.not_le.mp h0) h1
theorem uJ{j:Int}{n:Nat}(h:j<0):j+n<n:=by lia
theorem uK{j:Int}{n:Nat}(h:0≤j+n):-(n:Int)≤j:=by(exact Int.add_nonneg_iff_neg_le.mp h)
theorem Dg{j:Int}(h:0≤j):-(2 ^ 63)≤j:=by lia
theorem AU{j:Int}(h:j<0):j<2 ^ 63:=by lia
theorem uL{j:Int}{n:Nat}(h:j<n)(hb:n≤big):j<2 ^ 63:=by
  have hb:n≤1048576:=hb
  omega
theorem pL{j:Int}{n:Nat}(h:0≤j+n)(hb:n≤big):-(2 ^ 63)≤j:=by
  have hb:n≤1048576:=hb
  lia
theorem AV{j:Int}{n:Nat}(h0:0≤j)(h1:j<n):seqIndex? j n=some j.toNat:=by
  have hk:¬j<0:=Int.not_lt.mpr h0
  simp[seqIndex?,hk,h0,h1]
theorem xm{j:Int}{n:Nat}(h0:j<0)(h1:0≤j+n):seqIndex? j n=some (j+n).toNat:=by
  have hn:=uJ (n:=n) h0
  simp[seqIndex?,h0,h1,hn]
theorem pM{prog:Program}{w:World}(x:ae)(t:Tok):(PySem.strKind prog w).is x (.str x t)=true:=by
  show Value.isStrOf x (.str x t)=true
  simp[Value.isStrOf]
theorem j_(j:ae):∀kvs:List (ae×Value),PySem.valueAt kvs j=kvs.lookup j:=by
  intro kvs
  induction kvs with
  |nil=>rfl
  |cons p r ih=>
    obtain⟨n,v⟩:=p
    unfold PySem.valueAt at ih ⊢
    rw[List.find?_cons]
    by_cases h:n=j
    · subst h;rw[gQ,decide_eq_true rfl];rfl
    · rw[fV (Ne.symm h),decide_eq_false h];exact ih
theorem nU{p q:PySem.Expr}{x:Sx}{io:String→List Bool}{e:E}{a:Addr}{vs:Array Value}{i:Int}{j:Nat}{tk:Tok}{u:Value}{E':Value→Shared→Prop}(hc:af io x e q=true)(ht:y.h.IsTuple a vs∨y.h.IsList a vs)(hb:vs.size≤big)(hj:ix i vs.size=some j)(hu:vs[j]?=some u)
    (hq:∀t,Q u { y.s with toks:=t }):wpAny (model C.cl.prog C.cl.w) k.A (subscriptTail p q (.ref a) (.int i tk)) Q E' y.s:=by
  refine Df (R:=fun j=>vs[j]?=some u→_) hj (fun h0 h1 hu=>?_) (fun h0 h1 hu=>?_) hu
  · exact ht.elim (fun ht=>tail_any (ht.elim fun o h=>⟨o,h.1,h.2.1⟩) slot_tuple_getitem.lookup (PyProof.Rows.getItem_tuple ht (Dg h0) (uL h1 hb) (AV h0 h1) hu (hq _)) (eR hc _ _))
      fun ht=>tail_any (ht.elim fun o h=>⟨o,h.1,h.2.1⟩) slot_list_getitem.lookup (wpAny_getItem_list ht h0 (uL h1 hb) hu (hq _)) (eR hc _ _)
  · exact ht.elim (fun ht=>tail_any (ht.elim fun o h=>⟨o,h.1,h.2.1⟩) slot_tuple_getitem.lookup (PyProof.Rows.getItem_tuple ht (pL h1 hb) (AU h0) (xm h0 h1) hu (hq _)) (eR hc _ _))
      fun ht=>tail_any (ht.elim fun o h=>⟨o,h.1,h.2.1⟩) slot_list_getitem.lookup (wpAny_getItem_list_neg ht h0 (uK h1) (pL h1 hb) hu (hq _)) (eR hc _ _)
theorem nV{p q:PySem.Expr}{x:Sx}{io:String→List Bool}{e:E}{a:Addr}{kvs:List (ae×Value)}{n:ae}{tk:Tok}{u:Value}{E':Value→Shared→Prop}(hc:af io x e q=true)(hd:iA C y a kvs)(hu:kvs.lookup n=some u)
    (hq:∀t,Q u { y.s with toks:=t }):wpAny (model C.cl.prog C.cl.w) k.A (subscriptTail p q (.ref a) (.str n tk)) Q E' y.s:=by
  refine tail_any ?_ slot_dict_getitem.lookup (wpAny_getItem_of (knd:=strKind C.cl.prog C.cl.w) (k:=n) (pM _ _) hd.mapOf ((j_ _ _).trans hu) (hq _)) (eR hc _ _)
  obtain⟨o,es,ep,ho,he,_⟩:=hd
  exact⟨o,ho,he.1⟩
@[elab_as_elim] theorem AW{m₁ m₂ z:M}{R:M→M→Prop}(h:item m₁ m₂=some z)(k1:∀m₁ i l j,m₁.seq?=some l→ix i l.length=some j→l[j]?=some z→R m₁ (.v (.int i)))(k2:∀fs s,fs.lookup s=some z→R (.dct fs) (.v (.str s))):R m₁ m₂:=by
  cases m₂ with
  |v x=>
    cases x with
    |int i=>exact oB h fun l hl h=>oB h fun j hj h=>k1 m₁ i l j hl hj h
    |str s=>
      cases m₁ with
      |dct fs=>exact k2 fs s h
      |_=>exact ns h
    |_=>exact ns h
  |_=>exact ns h
theorem xn{p q:PySem.Expr}{x:Sx}{io:String→List Bool}{e:E}{m₁ m₂ z:M}{u v:Value}{f₁ f₂:List Addr}{E':Value→Shared→Prop}(hc:af io x e q=true)(r₁:ag C y u m₁ f₁)(r₂:ag C y v m₂ f₂)
    (h:item m₁ m₂=some z)(hq:∀w f t,ag C y w z f→f.Sublist f₁→Q w { y.s with toks:=t }):wpAny (model C.cl.prog C.cl.w) k.A (subscriptTail p q u v) Q E' y.s:=by
  refine AW (R:=fun m₁ m₂=>ag C y u m₁ f₁→ag C y v m₂ f₂→_) h (fun m₁ i l j hl hj hz r₁ r₂=>?_) (fun fs s hz r₁ r₂=>?_) r₁ r₂
  · refine r₂.2.int_e (R:=fun v=>wpAny _ _ (subscriptTail p q u v) Q E' y.s) fun t=>r₁.seq (R:=fun u=>wpAny _ _ (subscriptTail p q u _) Q E' y.s) hl fun a vs f ht hz' rs hf=>?_
    obtain⟨w,fw,h1,h2,h3⟩:=rs.get hz
    exact nU hc ht (rs.size▸hz') (rs.size▸hj) (Array.getElem?_toList.symm.trans h1) fun t=>hq w fw t h2 (h3.trans hf)
  · obtain⟨a,kvs,f,rfl,rfl,hd,rk⟩:=r₁
    refine r₂.2.str_e (R:=fun v=>wpAny _ _ (subscriptTail p q _ v) Q E' y.s) fun t=>?_
    obtain⟨w,fw,h1,h2,h3⟩:=rk.get hz
    exact nV hc hd h1 fun t=>hq w fw t h2 (h3.trans (List.sublist_cons_self _ _))
end
end Mine.Internal
end
section
namespace Mine.Internal
open PySem PySem.W PySem.Calls PyProof.Rows
section
variable {C:Cx} {Φ:Phi} {d:Nat} {k:Kx} {y y':Y} {σ σ' σ₁:List M} {m:M} {Q E₀:Value→Shared→Prop} {c t:Bool}
theorem Val.parts{u:Value}{N:List Addr}(r:Val C y t u m N):∃f,ag C y u m f∧(f=N∨(N=[]∧∀b∈f,b∈y.os.flatten)):=
  r.elim (fun r=>⟨N,r,.inl rfl⟩) fun r=>r.2.2.elim fun f h=>⟨f,h.2,.inr ⟨r.2.1,h.1⟩⟩
theorem d5.part{N₁ N₂ f₁ f:List Addr}{w:Value}{s:Shared}(hq:d5 C k y σ c false m σ' Q)(R:Run C k y σ c y' σ' (N₂++N₁))(o:f₁=N₁∨(N₁=[]∧∀b∈f₁,b∈y'.os.flatten))(hf:f.Sublist f₁)(mv:Mv y' (y'.to s) [])(r:ag C y' w m f):Q w s:=by
  rcases o with rfl|⟨rfl,o⟩
  · exact hq w (y'.to s) f ((R.drop (hf.trans (List.sublist_append_right _ _))).still mv) (.inl (r.stay mv.stay0))
  · exact hq w (y'.to s) [] (R.drop0.still mv) (.inr ⟨rfl,rfl,f,fun b hb=>o b (hf.subset hb),r.stay mv.stay0⟩)
theorem AX{e i:E}{G:Tab}{R:Prop}(h:ev G Φ (.sub e i) σ=some (m,σ'))(j:∀m₁ σ₁ m₂,ev G Φ e σ=some (m₁,σ₁)→ev G Φ i σ₁=some (m₂,σ')→(m₁.isV||i.calm G.io)=true→item m₁ m₂=some m→R):R:=by
  have h:(if i.calm G.io=true then _ else _)=some (m,σ'):=h
  by_cases q:i.calm G.io=true
  · rw[if_pos q]at h
    exact oP h fun m₁ σ₁ h1 h=>oP h fun m₂ σ₂ h2 h=>oM h fun z hz e=>by obtain⟨rfl,rfl⟩:=Prod.mk.inj e;exact j m₁ σ₁ m₂ h1 h2 (by rw[q,Bool.or_true]) hz
  · rw[if_neg q]at h
    exact oP h fun m₁ σ₁ h1 h=>oI h fun hs h=>oP h fun m₂ σ₂ h2 h=>oM h fun z hz e=>by obtain⟨rfl,rfl⟩:=Prod.mk.inj e;exact j m₁ σ₁ m₂ h1 h2 (by rw[hs,Bool.true_or]) hz
theorem AY{e i:E}(S₁:SE C Φ d e)(S₂:SE C Φ d i):SE C Φ d (.sub e i):=fun S hB hc he hq=>AX he fun m₁ σ₁ m₂ h1 h2 hs hz=>mN hc fun v w z hc1 hc2=>
  Subscript_ (eQ S₁ S₂ S hB hc1 hc2 h1 h2 hs fun u v y' N₁ N₂ R r₁ r₂=>r₁.parts.elim fun f₁ r₁=>r₂.at_.elim fun f₂ r₂=>xn hc2 r₁.1 r₂ hz fun w f t r hf=>hq.part R r₁.2 hf (a4 ..) r)
theorem iG{u:Value}{f:List Addr}(r:ag C y u m f)(hne:m≠M.undef):handedIn u=true:=by
  cases m with
  |undef=>exact absurd rfl hne
  |v x=>
    have r:=r.2
    cases x with
    |none=>rw[show u=.none from r];rfl
    |bool b=>rw[show u=.bool b from r];rfl
    |int i=>exact r.int_e fun t=>rfl
    |str i=>exact r.str_e fun t=>rfl
    |tup i=>exact r.tup_e fun _ _ _ _ _ _=>rfl
    |lst i=>exact r.lst_e fun _ _ _ _ _ _=>rfl
    |obj c i=>exact r.obj_e fun _ _ _ _ _ _ _=>rfl
  |tup l=>exact r.tup_e fun _ _ _ _ _ _=>rfl
  |lst l=>exact r.lst_e (R:=fun u _=>handedIn u=true) fun _ _ _ _ _=>rfl
  |lstM l=>exact r.lstM_e (R:=fun u _=>handedIn u=true) fun _ _ _ _ _ _=>rfl
  |obj c fs=>exact r.obj_e (R:=fun u _=>handedIn u=true) fun _ _ _ _ _ _=>rfl
  |dct fs=>exact r.dct_e (R:=fun u _=>handedIn u=true) fun _ _ _ _ _=>rfl
theorem uM{z:M}(h:m.def?=some z):z=m∧m≠M.undef:=by
  cases m with
  |undef=>exact ns h
  |_=>exact⟨(Option.some.inj h).symm,nofun⟩
theorem rz{v:PySem.Expr}{n:ae}{env:Env}{x:Sem Value}(hc:a_ v=false):attributeBase v n env x=x:=by
  cases v<;>first|rfl|exact Bool.noConfusion hc
theorem lL{v:PySem.Expr}{n:ae}{pos:Pos}{env:Env}{prog:Program}{w:World}{A:Around}{s:Shared}(hc:a_ v=false)(h:wpAny (model prog w) A (eval v env) (fun o s₁=>wpAny (model prog w) A (getAttr o n true) Q E₀ s₁) E₀ s):wpAny (model prog w) A (eval (.Attribute v n pos) env) Q E₀ s:=by
  refine Attribute_any_ h ?_
  rw[arm_eval_Attribute,rz hc]
theorem kb{O:List Addr}(FC:Facts C)(H:HT C y O):C.K.In y.h:=fun b o e=>H.stays b o (FC.inK b o e)
theorem uN{c n:String}{fs:List (String×M)}{x z:M}{u:Value}{f O:List Addr}(FC:Facts C)(H:HT C y O)(hn:n∈bk)(r:ag C y u m f)(hf:m.fields?=some (c,fs))(hp:C.G.prop c n=none)
    (hx:fs.lookup n=some x)(hd:x.def?=some z)(hq:∀w f' t,ag C y w z f'→f'.Sublist f→Q w { y.s with toks:=t }):wpAny (model C.cl.prog C.cl.w) k.A (getAttr u (Str.ofString n) true) Q E₀ y.s:=by
  refine r.fields (R:=fun u=>wpAny _ _ (getAttr u _ true) Q E₀ y.s) hf fun a dd kvs g ho rf hs=>?_
  obtain⟨w,fw,h3,h4,h5⟩:=rf.get hx
  obtain⟨rfl,hne⟩:=uM hd
  obtain⟨A',es,j,hc,h1,h2,he⟩:=ho
  obtain⟨t,ht,hg⟩:=FC.attr c A' hc n hn hp
  have I:InstAt y.h a (instObj A' dd) A' (some (dictOf es j)):=⟨h1,rfl,rfl,h2⟩
  have h3:getL (Str.ofString n) es=some (some w):=he.get.trans (congrArg some h3)
  exact get_value (kb FC H) I (plainGet_of (FC.get c A' hc (Str.ofString n))).1 (findObj_own (FC.dict c A' hc) ht hg h3) (iG h4 hne) (hq w fw _ h4 (h5.trans hs))
theorem kc(n:Nat)(i:Int):clipAt n i=ec i n:=by
  unfold clipAt ec
  by_cases h:0≤i
  · rw[if_neg (Int.not_lt.mpr h),if_pos h]
    by_cases q:i≤n
    · rw[Int.min_eq_left q,Int.max_eq_right h,Nat.min_eq_left (Int.toNat_le.mpr q)]
    · have q:=Int.le_of_lt (Int.not_le.mp q)
      rw[Int.min_eq_right q,Int.max_eq_right (Int.natCast_nonneg n),Int.toNat_natCast,Nat.min_eq_right ((Int.le_toNat h).mpr q)]
  · have h':=Int.not_le.mp h
    rw[if_pos h',if_neg h,Int.min_eq_left (Int.le_of_lt (uJ h'))]
    by_cases q:0≤i+n
    · rw[Int.max_eq_right q]
    · have q:=Int.le_of_lt (Int.not_le.mp q)
      rw[Int.max_eq_left q,Int.toNat_of_nonpos q];rfl
noncomputable def SO(C:Cx)(Φ:Phi)(d:Nat)(e:Option E):Prop:=∀{k:Kx} {y:Y} {σ:List M} {p:Option PySem.Expr} {i:Option Int} {σ':List M} {Q:Value→Shared→Prop},
  St C k y σ→Bud k.A d→lj C.G.io k.a.sx e p=true→evO C.G Φ e σ=some (i,σ')→(∀v y',IsPart v i→Run C k y σ (E.calmO C.G.io e) y' σ' []→Q v y'.s)→W C k (evalPart p k.a.env) Q y.s
theorem xo:SO C Φ d none:=fun S _ hc he=>sm he fun hq=>C_ hc (wpAny_evalPart_none (hq _ _ .none (.refl S _)))
@[elab_as_elim] theorem zB{e:E}{G:Tab}{i:Option Int}{R:Option Int→Prop}(h:evO G Φ (some e) σ=some (i,σ'))(k:∀i,ev G Φ e σ=some (.v (.int i),σ')→R (some i)):R i:=
  oP h fun m₁ σ₁ h1 h=>oM h fun i hi e=>by obtain⟨rfl,rfl⟩:=Prod.mk.inj e;exact k i (gh hi▸h1)
theorem xp{e:E}(S₁:SE C Φ d e):SO C Φ d (some e):=fun S hB hc he=>zB he fun i he hq=>Da hc fun p hc=>
  wpAny_evalPart_some (S₁ S hB hc he fun v y' N R r=>r.v.int_e fun t=>hq _ y' (.int _ _) R.drop0)
theorem al.drop{l:List V}:∀{us:List Value} (i:Nat),al C y us l→al C y (us.drop i) (l.drop i):=by
  induction l with
  |nil=>intro us i e;rw[show us=[]from e,List.drop_nil,List.drop_nil];rfl
  |cons x l ih=>
    intro us i e
    cases i with
    |zero=>exact e
    |succ i=>exact e.cons_e fun u ws _ h=>ih i h
theorem al.take{l:List V}:∀{us:List Value} (i:Nat),al C y us l→al C y (us.take i) (l.take i):=by
  induction l with
  |nil=>intro us i e;rw[show us=[]from e,List.take_nil,List.take_nil];rfl
  |cons x l ih=>
    intro us i e
    cases i with
    |zero=>rfl
    |succ i=>exact e.cons_e fun u ws h1 h=>⟨u,_,rfl,h1,ih i h⟩
theorem xq{l:List V}{a b:Nat}(h:l.length≤big):(cut l a b).length≤big:=by
  unfold cut
  rw[List.length_drop,List.length_take]
  exact Nat.le_trans (Nat.sub_le _ _) (Nat.le_trans (Nat.min_le_right _ _) h)
theorem Dh(x:Option Int)(n:Nat):Option.elim x 0 (clipAt n)=cT x n:=by cases x<;>first|rfl|exact kc ..
theorem Di(x:Option Int)(n:Nat):Option.elim x n (clipAt n)=cU x n:=by cases x<;>first|rfl|exact kc ..
@[elab_as_elim] theorem uO{e:E}{lo hi:Option E}{G:Tab}{R:M→Prop}(h:ev G Φ (.slc e lo hi) σ=some (m,σ'))(j:∀m₁ σ₁ l a σ₂ b,E.calmO G.io lo=true→E.calmO G.io hi=true→ev G Φ e σ=some (m₁,σ₁)→m₁.list?=some l→evO G Φ lo σ₁=some (a,σ₂)→evO G Φ hi σ₂=some (b,σ')→R (.lst (cut l (cT a l.length) (cU b l.length)))):R m:=
  oI h fun hs h=>oP h fun m₁ σ₁ h1 h=>oB h fun l hl h=>oP h fun a σ₂ h2 h=>oM h fun p h3 e=>by
    obtain⟨b,σ₃⟩:=p
    obtain⟨rfl,rfl⟩:=Prod.mk.inj e
    exact j m₁ σ₁ l a σ₂ b (a2_ hs).1 (a2_ hs).2 h1 hl h2 h3
noncomputable def AZ(u v:Value):Obj:={ cls:=.type "slice",data:=.fields #[u,v,.none] }
theorem A0{e:E}{lo hi:Option E}(S₁:SE C Φ d e)(S₂:SO C Φ d lo)(S₃:SO C Φ d hi):SE C Φ d (.slc e lo hi):=fun{k y σ p m σ' Q} S hB hc he=>uO he fun m₁ σ₁ l a σ₂ b q1 q2 h1 hl h2 h3 hq=>Ao hc fun v lp rp z z' hn hc1 hc2 hc3=>by
  refine wpAny_Subscript_list_slice (S₁ S hB hc1 h1 fun u y₁ N R r=>?_) (by obtain⟨n,z,rfl⟩:=Dc hn;exact fun _ _=>rfl)
  refine S₂ (k:=k.on N) R.st hB hc2 h2 fun vl y₂ i1 R₂=>S₃ (k:=k.on N) R₂.st hB hc3 h3 fun vu y₃ i2 R₃=>?_
  have R₂₃:=R₂.then0 R₃ (c:=true) fun _=>by rw[q1,q2];rfl
  have R':Run C k y σ ((E.slc e lo hi).calm C.G.io) y₃ σ' []:=((R.trans R₂₃).mono fun h=>Bool.and_eq_true_iff.mpr ⟨(a3_ h).1,rfl⟩).drop0
  have r':=(R₂₃.val R.st r (by rw[Bool.or_true])).list (R:=fun u=>∃a vs,u=.ref a∧y₃.h.PlainList a vs∧l.length≤big∧al C y₃ vs.toList l) hl fun a vs h1 h2 h3=>⟨a,vs,rfl,h1,h2,h3⟩
  obtain⟨bb,vs,rfl,i3,hz,rv⟩:=r'
  refine⟨bb,vs,a,b,rfl,aQ i3,?_,i1,i2,?_⟩
  · rw[rv.size];exact Nat.le_trans hz (by decide)
  · have mv:=cn y₃ (AZ vl vu)
    have key:Q (.ref (y₃.h.push (AZ vl vu)).objs.size) { y₃.s with heap:=(y₃.h.push (AZ vl vu)).push (newL ((List.drop (Option.elim a 0 (clipAt vs.size)) vs.toList).take (Option.elim b vs.size (clipAt vs.size)-Option.elim a 0 (clipAt vs.size)))) }:=hq.newL (R'.still mv) (xq hz) (by
      rw[Dh,Di,rv.size]
      unfold cut
      rw[List.drop_take]
      exact((rv.stay mv.stay0).drop _).take _)
    rw[Heap.size_push]at key
    rw[slicePick_plain]
    exact key
end
end Mine.Internal
end
section
namespace Mine.Internal
open PySem PySem.W PySem.Calls PyProof.Rows
section
variable {C:Cx} {Φ:Phi} {d:Nat} {k:Kx} {y y':Y} {σ σ' σ₁:List M} {m:M} {A:Around} {s:Shared}
theorem rA{o₁ o₂:COp}{r₁ r₂:PySem.Expr}{env:Env}:markedEach [aY o₁,aY o₂] [r₁,r₂] (evalEach [r₁,r₂] env)=[eval r₁ env,eval r₂ env]:=by
  show[eval r₁ env,markedBehindIn (aY o₂) r₂ (eval r₂ env)]=_
  unfold markedBehindIn
  rw[j8]
theorem A1{M₀:Model}{l r₁ r₂:PySem.Expr}{o₁ o₂:COp}{pos:Pos}{env:Env}{Q E₀:Value→Shared→Prop}
    (h:wpAny M₀ A (eval l env) (fun u s₁=>wpAny M₀ A (eval r₁ env) (fun v s₂=>wpAny M₀ A (compareOp (aY o₁) u v) (fun c s₃=>wpAny M₀ A (truthy c) (fun t s₄=>if t=true then wpAny M₀ A (eval r₂ env) (fun x s₅=>wpAny M₀ A (compareOp (aY o₂) v x) Q E₀ s₅) E₀ s₄ else Q c s₄) E₀ s₃) E₀ s₂) E₀ s₁) E₀ s):
    wpAny M₀ A (eval (.Compare l [aY o₁,aY o₂] [r₁,r₂] pos) env) Q E₀ s:=by
  rw[arm_eval_Compare,rA]
  refine wpAny_bind (wpAny_mono h (fun u s₁ h₁=>?_) fun _ _ x=>x)
  refine wpAny_bind (wpAny_holding (wpAny_mono h₁ (fun v s₂ h₂=>?_) fun _ _ x=>x))
  refine wpAny_bind (wpAny_standAt (wpAny_bind (wpAny_holding (wpAny_mono h₂ (fun c s₃ h₃=>?_) fun _ _ x=>x))))
  refine wpAny_bind (wpAny_release (wpAny_bind (wpAny_holding (wpAny_mono h₃ (fun t s₄ h₄=>?_) fun _ _ x=>x))))
  cases t with
  |true=>exact wpAny_bind (wpAny_holding (wpAny_mono h₄ (fun x s₅ h₅=>wpAny_bind (wpAny_standAt (wpAny_operateT h₅))) fun _ _ x=>x))
  |false=>exact wpAny_pure h₄
theorem Dj{M₀:Model}{l r₁ r₂:PySem.Expr}{o₁ o₂:COp}{pos:Pos}{env:Env}{whole:Sem Value}{Q:Bool→Shared→Prop}{E₀:Value→Shared→Prop}
    (h:wpAny M₀ A (eval l env) (fun u s₁=>wpAny M₀ A (eval r₁ env) (fun v s₂=>wpAny M₀ A (compareOp (aY o₁) u v) (fun c s₃=>wpAny M₀ A (truthy c) (fun t s₄=>if t=true then wpAny M₀ A (eval r₂ env) (fun x s₅=>wpAny M₀ A (compareOp (aY o₂) v x) (fun c' s₆=>wpAny M₀ A (truthy c') Q E₀ s₆) E₀ s₅) E₀ s₄ else Q false s₄) E₀ s₃) E₀ s₂) E₀ s₁) E₀ s):
    wpAny M₀ A (PySem.isTrue (.Compare l [aY o₁,aY o₂] [r₁,r₂] pos) env whole) Q E₀ s:=by
  show wpAny M₀ A (do let v ←eval l env;testChain pos v [aY o₁,aY o₂] (markedEach [aY o₁,aY o₂] [r₁,r₂] (evalEach [r₁,r₂] env))) Q E₀ s
  rw[rA]
  refine wpAny_bind (wpAny_mono h (fun u s₁ h₁=>?_) fun _ _ x=>x)
  refine wpAny_bind (wpAny_holding (wpAny_mono h₁ (fun v s₂ h₂=>?_) fun _ _ x=>x))
  refine wpAny_bind (wpAny_standAt (wpAny_bind (wpAny_holding (wpAny_mono h₂ (fun c s₃ h₃=>?_) fun _ _ x=>x))))
  refine wpAny_bind (wpAny_release (wpAny_bind (wpAny_holding (wpAny_mono h₃ (fun t s₄ h₄=>?_) fun _ _ x=>x))))
  cases t with
  |true=>exact wpAny_bind (wpAny_holding (wpAny_mono h₄ (fun x s₅ h₅=>wpAny_bind (wpAny_standAt (wpAny_bind (wpAny_operateT (wpAny_mono h₅ (fun c' s₆ h₆=>wpAny_holding h₆) fun _ _ x=>x))))) fun _ _ x=>x))
  |false=>exact wpAny_pure h₄
@[elab_as_elim] theorem xr{o₁ o₂:COp}{e₁ e₂ e₃:E}{G:Tab}{R:M→Prop}(h:ev G Φ (.cmp2 o₁ o₂ e₁ e₂ e₃) σ=some (m,σ'))
    (k1:∀m₁ σ₁ m₂,e₂.calm G.io=true→ev G Φ e₁ σ=some (m₁,σ₁)→ev G Φ e₂ σ₁=some (m₂,σ')→bn o₁ m₁ m₂=some false→R (.v (.bool false)))
    (k2:∀m₁ σ₁ m₂ σ₂ m₃ b,e₂.calm G.io=true→e₃.calm G.io=true→ev G Φ e₁ σ=some (m₁,σ₁)→ev G Φ e₂ σ₁=some (m₂,σ₂)→bn o₁ m₁ m₂=some true→ev G Φ e₃ σ₂=some (m₃,σ')→bn o₂ m₂ m₃=some b→R (.v (.bool b))):R m:=
  oI h fun hs h=>oP h fun m₁ σ₁ h1 h=>oP h fun m₂ σ₂ h2 h=>oB h fun b hb h=>by
    cases b with
    |false=>cases h;exact k1 m₁ σ₁ m₂ (a2_ hs).1 h1 h2 hb
    |true=>exact oP h fun m₃ σ₃ h3 h=>oM h fun b hb' e=>by obtain⟨rfl,rfl⟩:=Prod.mk.inj e;exact k2 m₁ σ₁ m₂ σ₂ m₃ b (a2_ hs).1 (a2_ hs).2 h1 h2 hb h3 hb'
theorem xt{a b:Bool}(h:b=true):(a||b)=true:=by rw[h,Bool.or_true]
theorem zC{o₁ o₂:COp}{e₁ e₂ e₃:E}{l r₁ r₂:PySem.Expr}{K K₂:Value→Shared→Prop}(S₁:SE C Φ d e₁)(S₂:SE C Φ d e₂)(S₃:SE C Φ d e₃)(S:St C k y σ)(hB:Bud k.A d)(hc1:af C.G.io k.a.sx e₁ l=true)(hc2:af C.G.io k.a.sx e₂ r₁=true)(hc3:af C.G.io k.a.sx e₃ r₂=true)
    (he:ev C.G Φ (.cmp2 o₁ o₂ e₁ e₂ e₃) σ=some (m,σ'))(hk:∀b y',m=.v (.bool b)→Run C k y σ ((E.cmp2 o₁ o₂ e₁ e₂ e₃).calm C.G.io) y' σ' []→K (.bool b) y'.s∧(b=false→K₂ (.bool false) y'.s)):
    W C k (eval l k.a.env) (fun u s₁=>W C k (eval r₁ k.a.env) (fun v s₂=>W C k (compareOp (aY o₁) u v) (fun c s₃=>W C k (truthy c) (fun t s₄=>if t=true then W C k (eval r₂ k.a.env) (fun x s₅=>W C k (compareOp (aY o₂) v x) K s₅) s₄ else K₂ c s₄) s₃) s₂) s₁) y.s:=by
  refine xr (R:=fun m=>(∀b y',m=.v (.bool b)→Run C k y σ ((E.cmp2 o₁ o₂ e₁ e₂ e₃).calm C.G.io) y' σ' []→K (.bool b) y'.s∧(b=false→K₂ (.bool false) y'.s))→_) he (fun m₁ σ₁ m₂ q2 h1 h2 hb hk=>?_) (fun m₁ σ₁ m₂ σ₂ m₃ b q2 q3 h1 h2 hb h3 hb' hk=>?_) hk
  · exact eQ S₁ S₂ S hB hc1 hc2 h1 h2 (xt q2) fun u v y' N₁ N₂ R r₁ r₂=>j7 hB r₁ r₂ hb (wpAny_truthy_bool ((hk false y' rfl (R.drop0.mono a13)).2 rfl))
  · exact eQ S₁ S₂ S hB hc1 hc2 h1 h2 (xt q2) fun u v y' N₁ N₂ R r₁ r₂=>j7 hB r₁ r₂ hb (wpAny_truthy_bool (S₃ (k:=k.on (N₂++N₁)) R.st hB hc3 h3 fun x y'' N₃ R₃ r₃=>
      j7 (k:=k) hB (R₃.val R.st r₂ (xt q3) fun b hb=>List.mem_append_left _ hb) r₃ hb' (hk b y'' rfl ((R.trans R₃).drop0)).1))
theorem xu{o₁ o₂:COp}{e₁ e₂ e₃:E}(S₁:SE C Φ d e₁)(S₂:SE C Φ d e₂)(S₃:SE C Φ d e₃):SB C Φ d (.cmp2 o₁ o₂ e₁ e₂ e₃):=
  ⟨fun{k y σ p m σ' Q} S hB hc he hq=>qX hc fun l r r' z hc1 hc2 hc3=>A1 (zC S₁ S₂ S₃ S hB hc1 hc2 hc3 he fun b y' hm R=>by subst hm;exact⟨hq.v0 R rfl,fun e=>by subst e;exact hq.v0 R rfl⟩),
  fun{k y σ p m σ' b Q} S hB hc he hb hq=>qX hc fun l r r' z hc1 hc2 hc3=>Dj (zC (K₂:=fun _=>Q false) S₁ S₂ S₃ S hB hc1 hc2 hc3 he fun b' y' hm R=>by
    subst hm
    obtain rfl:=Option.some.inj hb
    exact⟨wpAny_truthy_bool (hq y' R),fun e=>e▸hq y' R⟩)⟩
theorem bw{x:Sx}{io:String→List Bool}{e:E}{p:PySem.Expr}(h:af io x e p=true):∀v q,p≠.Starred v q:=by
  intro v q e';subst e'
  cases e<;>exact absurd h Bool.false_ne_true
theorem aH{e:PySem.Expr}{r:List PySem.Expr}{env:Env}(h:∀v p,e≠.Starred v p):starEach (e::r) env=(false,eval e env)::starEach r env:=by
  cases e<;>first|rfl|exact absurd rfl (h _ _)
theorem bX{M₀:Model}{t:Sem Value}{r:List (Bool×Sem Value)}{Q:List Value→Shared→Prop}{E₀:Value→Shared→Prop}(h:wpAny M₀ A t (fun v s₁=>wpAny M₀ A (spliced r) (fun vs s₂=>Q (v::vs) s₂) E₀ s₁) E₀ s):wpAny M₀ A (spliced ((false,t)::r)) Q E₀ s:=
  wpAny_bind (wpAny_mono h (fun v s₁ h₁=>wpAny_bind (wpAny_pure (wpAny_bind (wpAny_holding (wpAny_mono h₁ (fun vs s₂ h₂=>wpAny_pure h₂) fun _ _ x=>x))))) fun _ _ x=>x)
end
end Mine.Internal
end
section
namespace Mine.Internal
open PySem PySem.W PySem.Calls PyProof.Rows
section
variable {C:Cx} {k:Kx} {y y':Y} {σ σ':List M} {O N:List Addr} {D:Addr} {s:Shared} {c:Bool}
theorem HT.touchL{wr:List Addr}(H:HT C y O)(m:Mv y y' wr)(hw:∀b∈wr,b∈O∧y'.has b)(hF:∀b,y'.F b→y.F b∨(y.no b∧y'.has b)):HT C y' O:=by
  refine⟨fun b o e=>m.keep b (fun q=>H.base e (hw b q).1) o (H.stays b o e),H.nodup,fun b hb=>?_,fun b hb=>(hF b hb).elim (fun q=>(m.keep b fun w=>H.nF (hw b w).1 q).has (H.old b q)) And.right,fun b o e=>m.fsub b (H.base' b o e)⟩
  obtain⟨h1,h2,h3⟩:=H.own b hb
  refine⟨fun q=>(hF b q).elim h1 fun q=>eL q.1 h3,h2,?_⟩
  by_cases e:b∈wr
  · exact(hw b e).2
  · exact(m.keep b e).has h3
theorem Run.touch(R:Run C k y σ c y' σ' N)(m:Mv y' (y'.to s) [D])(hD:D∈N++k.X)(hn:y.no D)(ho:(y'.to s).has D):Run C k y σ c (y'.to s) σ' N:=by
  have H:=R.st.ht
  have hd:∀b∈[D],b=D:=fun b hb=>List.mem_singleton.mp hb
  have hDO:D∈k.a.fr++(y'.os.flatten++(N++k.X)):=List.mem_append_right _ (List.mem_append_right _ hD)
  refine⟨R.mv.trans m fun x hx=>.inr (hd x hx▸hn),⟨H.touchL m (fun b hb=>hd b hb▸⟨hDO,ho⟩) (fun _=>.inl),R.st.vars.stay k.hE ⟨fun b hb=>m.keep b fun q=>H.nF hDO (hd b q▸hb),fun b hb=>m.keep b fun q=>?_,m.fsub⟩ rfl rfl⟩,R.calm,R.rho,R.dirt,R.und⟩
  have hnd:=H.nodup
  rw[←List.append_assoc]at hnd
  exact nd hnd (hd b q▸hb) hD
theorem a7{h':Heap}{t:Nat}(hs:Heap.SameBut D y.h h'):Mv y (y.to { y.s with heap:=h',toks:=t }) [D]:=
  ⟨⟨h',t,rfl⟩,fun b hb o e=>(hs.2 b fun q=>hb (by rw[q];exact .head _)).trans e,fun _ h=>h⟩
theorem bI{h':Heap}{t:Nat}(hk:∀c o,y.h.get? c=some o→h'.get? c=some o):Mv y (y.to { y.s with heap:=h',toks:=t }) []:=⟨⟨h',t,rfl⟩,fun b _ o e=>hk b o e,fun _ h=>h⟩
end
end Mine.Internal
end
section
namespace Mine.Internal
open PySem PySem.W PySem.Calls PyProof.Rows
section
variable {C:Cx} {Φ:Phi} {d:Nat} {k:Kx} {y y':Y} {σ σ':List M} {m:M}
noncomputable def SD(C:Cx)(Φ:Phi)(d:Nat)(l:List E):Prop:=∀{k:Kx} {y:Y} {σ:List M} {ps:List PySem.Expr} {pos:Pos} {ms:List M} {σ':List M} {Q:List Value→Shared→Prop},
  St C k y σ→Bud k.A d→a0 C.G.io k.a.sx l ps=true→evL C.G Φ l σ=some (ms,σ')→(∀vs y' N,Run C k y σ (E.calms C.G.io l) y' σ' N→aw C y' vs ms N→Q vs y'.s)→W C k (spliced (backTo pos (starEach ps k.a.env))) Q y.s
theorem A2:SD C Φ d []:=fun S hB hc he=>sm he fun hq=>iE hc (wpAny_pure (hq [] _ [] (.refl S _) ⟨rfl,rfl⟩))
@[elab_as_elim] theorem zD{e:E}{r:List E}{G:Tab}{ms:List M}{R:List M→Prop}(h:evL G Φ (e::r) σ=some (ms,σ'))(j:∀m σ₁ ms,ev G Φ e σ=some (m,σ₁)→ga e m=true→evL G Φ r σ₁=some (ms,σ')→R (m::ms)):R ms:=
  oP h fun m₁ σ₁ h1 h=>oI h fun hs h=>oM h fun p h2 e=>by
    obtain⟨ms,σ₂⟩:=p
    obtain⟨rfl,rfl⟩:=Prod.mk.inj e
    exact j m₁ σ₁ ms h1 hs h2
theorem aw.cons{x:M}{l:List M}{u:Value}{us:List Value}{f g:List Addr}(h1:ag C y u x f)(h2:aw C y us l g):aw C y (u::us) (x::l) (f++g):=⟨u,us,f,g,rfl,rfl,h1,h2⟩
theorem xv{e:E}{r:List E}(S₁:SE C Φ d e)(S₂:SD C Φ d r):SD C Φ d (e::r):=fun{k y σ ps pos ms σ' Q} S hB hc he=>zD he fun m σ₁ ms h1 hs h2 hq=>eO hc fun p q hc1 hc2=>by
  rw[aH (bw hc1)]
  exact bX (S₁ S hB hc1 h1 fun v y₁ f R r=>S₂ (k:=k.on f) (pos:=pos) R.st hB hc2 h2 fun vs y₂ g R₂ rs=>
    hq _ y₂ _ ((R.trans R₂).perm List.perm_append_comm) (.cons ((r.own hs).stay (R₂.stay R.st (.inr fun b hb=>List.mem_append_left _ hb))) rs))
theorem ke{G:Tab}{l:List E}:∀{σ σ':List M} {ms:List M},evL G Φ l σ=some (ms,σ')→ms.length=l.length:=by
  induction l with
  |nil=>intro σ σ' ms h;cases h;rfl
  |cons e r ih=>intro σ σ' ms h;exact zD h fun m σ₁ ms _ _ h=>congrArg Nat.succ (ih h)
noncomputable abbrev sH(vs:List Value):Obj:={ cls:=.type "tuple",data:=.seq vs.toArray }
theorem sJ{l:List M}{vs:List Value}{fp:List Addr}{b:Addr}(r:aw C y vs l fp)(hb:y.h.get? b=some (sH vs))(hz:l.length≤big)(hF:y.F b):ag C y (.ref b) (jG l) fp:=by
  unfold jG
  cases e:a5 l with
  |some xs=>
    rw[gP e]at r hz
    obtain⟨rfl,rv⟩:=r.ofVals
    exact⟨rfl,b,vs.toArray,rfl,hF,⟨_,hb,rfl,0,rfl⟩,lK▸hz,rv⟩
  |none=>exact⟨b,vs.toArray,rfl,hF,⟨_,hb,rfl,0,rfl⟩,hz,r⟩
theorem lM{l:List M}{vs:Array Value}{fp:List Addr}{b:Addr}(r:aw C y vs.toList l fp)(hb:y.h.PlainList b vs)(hz:l.length≤big):ag C y (.ref b) (bF l) (b::fp):=by
  unfold bF
  cases e:a5 l with
  |some xs=>
    rw[gP e]at r hz
    obtain⟨rfl,rv⟩:=r.ofVals
    exact⟨b,vs,rfl,rfl,hb,lK▸hz,rv⟩
  |none=>exact⟨b,vs,fp,rfl,rfl,hb,hz,r⟩
theorem rC{n:Nat}(h:n≤100):n≤big:=Nat.le_trans h (by decide)
theorem Run.pushF{c:Bool}{N:List Addr}(R:Run C k y σ c y' σ' N)(o:Obj)(hf:o.isFreed=false):Run C k y σ c ((y'.push o).fz [y'.h.objs.size]) σ' N:=
  Run.freeze (N:=N) (f:=[y'.h.objs.size]) (R.push o hf)
@[elab_as_elim] theorem uP{l:List E}{G:Tab}{R:M→Prop}(h:ev G Φ (.tup l) σ=some (m,σ'))(j:∀ms,evL G Φ l σ=some (ms,σ')→R (jG ms)):R m:=
  oM h fun p h1 e=>by
    obtain⟨ms,σ₂⟩:=p
    obtain⟨rfl,rfl⟩:=Prod.mk.inj e
    exact j ms h1
@[elab_as_elim] theorem uQ{l:List E}{G:Tab}{R:M→Prop}(h:ev G Φ (.lst l) σ=some (m,σ'))(j:∀ms,evL G Φ l σ=some (ms,σ')→R (bF ms)):R m:=
  oM h fun p h1 e=>by
    obtain⟨ms,σ₂⟩:=p
    obtain⟨rfl,rfl⟩:=Prod.mk.inj e
    exact j ms h1
theorem A3{l:List E}(S₁:SD C Φ d l):SE C Φ d (.tup l):=fun{k y σ p m σ' Q} S hB hc he=>uP he fun ms h1 hq=>As hc fun es q z hl hc=>by
  have hl:ms.length≤100:=ke h1▸hl
  refine wpAny_Tuple (S₁ (pos:=z) S hB hc h1 fun vs y' N R r=>⟨by rw[r.length];exact Nat.le_trans hl (by decide),?_⟩)
  exact hq _ ((y'.push (sH vs)).fz [y'.h.objs.size]) N (R.pushF (sH vs) rfl) (.inl (sJ (r.stay ((cn y' (sH vs)).stay0.trans Stay.fz)) (cO y' (sH vs) rfl) (rC hl) (.inr (.head _))))
theorem A4{l:List E}(S₁:SD C Φ d l):SE C Φ d (.lst l):=fun{k y σ p m σ' Q} S hB hc he=>uQ he fun ms h1 hq=>Au hc fun es z hl hc=>by
  have hl:ms.length≤100:=ke h1▸hl
  refine wpAny_List (S₁ (pos:=z) S hB hc h1 fun vs y' N R r=>⟨by rw[r.length];exact Nat.le_trans hl (by decide),?_⟩)
  exact hq _ (y'.push (newL vs)) _ (R.push (newL vs) rfl) (.inl (lM (vs:=vs.toArray) (r.stay (cn y' (newL vs)).stay0) ⟨0,cO y' (newL vs) rfl⟩ (rC hl)))
end
end Mine.Internal
end
section
namespace Mine.Internal
open PySem PySem.W PySem.Calls PyProof.Rows
section
variable {C:Cx} {Φ:Phi} {d:Nat} {k:Kx} {y y':Y} {σ σ':List M} {m:M}
noncomputable def prs(ks:List (Option PySem.Expr))(vs:List PySem.Expr)(pos:Pos)(env:Env):List (Sem Value×Sem Value):=
  (ks.filterMap fun o=>o.map (eval · env)).zip ((evalEach vs env).map fun v=>do let x ←v;standAt pos;pure x)
theorem sK{x:Sx}{io:String→List Bool}{env:Env}{pos:Pos}{l:List (String×E)}:∀{ks:List (Option PySem.Expr)} {vs:List PySem.Expr},nO io x l ks vs=true→
    (evalEachOpt ks env).zip ((evalEach vs env).map fun v=>do let x ←v;standAt pos;pure x)=(prs ks vs pos env).map (fun p=>(some p.1,p.2))∧(prs ks vs pos env).length=l.length:=by
  induction l with
  |nil=>intro ks vs h;exact zu h ⟨rfl,rfl⟩
  |cons p r ih=>
    intro ks vs h
    obtain⟨n,e⟩:=p
    exact zw h fun c z q p u _ h2=>⟨congrArg (List.cons _) (ih h2).1,congrArg Nat.succ (ih h2).2⟩
noncomputable def SF(C:Cx)(Φ:Phi)(d:Nat)(l:List (String×E)):Prop:=∀{k:Kx} {y:Y} {σ:List M} {ks:List (Option PySem.Expr)} {vs:List PySem.Expr} {pos:Pos} {fs:List (String×M)} {σ':List M} {Q:List (Value×Value)→Shared→Prop},
  St C k y σ→Bud k.A d→nO C.G.io k.a.sx l ks vs=true→evF C.G Φ l σ=some (fs,σ')→
  (∀us y' N kvs,Run C k y σ (E.calmf C.G.io l) y' σ' N→Carries (PySem.strKind C.cl.prog C.cl.w) us kvs→kvs.map (·.1)=l.map (fun p=>Str.ofString p.1)→az C y' kvs fs N→Q us y'.s)→W C k (evalPairs (prs ks vs pos k.a.env)) Q y.s
theorem A5:SF C Φ d []:=fun S hB hc he=>sm he fun hq=>zu hc (wpAny_pure (hq [] _ [] [] (.refl S _) trivial rfl ⟨rfl,rfl⟩))
@[elab_as_elim] theorem Dk{n:String}{e:E}{r:List (String×E)}{G:Tab}{fs:List (String×M)}{R:List (String×M)→Prop}(h:evF G Φ ((n,e)::r) σ=some (fs,σ'))(j:∀m σ₁ fs,ev G Φ e σ=some (m,σ₁)→ga e m=true→evF G Φ r σ₁=some (fs,σ')→R ((n,m)::fs)):R fs:=
  oP h fun m₁ σ₁ h1 h=>oI h fun hs h=>oM h fun p h2 e=>by
    obtain⟨ms,σ₂⟩:=p
    obtain⟨rfl,rfl⟩:=Prod.mk.inj e
    exact j m₁ σ₁ ms h1 hs h2
theorem az.cons{n:String}{x:M}{l:List (String×M)}{u:Value}{us:List (ae×Value)}{f g:List Addr}(h1:ag C y u x f)(h2:az C y us l g):az C y ((Str.ofString n,u)::us) ((n,x)::l) (f++g):=⟨u,us,f,g,rfl,rfl,h1,h2⟩
theorem Run.toks{t:Nat}{c:Bool}{N:List Addr}(R:Run C k (y.to { y.s with toks:=t }) σ c y' σ' N):Run C k y σ c y' σ' N:=
  ⟨(a4 y t _).trans R.mv (fun x hx=>.inl (by cases c<;>exact hx)),R.st,R.calm,R.rho,R.dirt,R.und⟩
theorem xw{n:String}{e:E}{r:List (String×E)}(S₁:SE C Φ d e)(S₂:SF C Φ d r):SF C Φ d ((n,e)::r):=fun{k y σ ks vs pos fs σ' Q} S hB hc he=>Dk he fun m σ₁ fs h1 hs h2 hq=>zw hc fun c z q p u hc1 hc2=>by
  show W C k (evalPairs ((eval (.Constant (.str (Str.ofString n)) c z) k.a.env,(do let x ←eval p k.a.env;standAt pos;pure x))::prs q u pos k.a.env)) Q y.s
  refine wpAny_bind (wpAny_Constant_str ?_)
  have S':St C k (y.to { y.s with toks:=y.s.toks+1 }) σ:=((Run.refl S true).still (a4 ..)).st
  refine wpAny_bind (wpAny_holding (wpAny_bind (S₁ (y:=y.to { y.s with toks:=y.s.toks+1 }) S' hB hc1 h1 fun v y₁ f R r=>?_)))
  refine wpAny_bind (wpAny_standAt (wpAny_pure (wpAny_bind (wpAny_holding (S₂ (k:=k.on f) (pos:=pos) R.st hB hc2 h2 fun us y₂ g kvs R₂ hcr hk rs=>?_)))))
  exact wpAny_pure (hq _ y₂ _ ((Str.ofString n,v)::kvs) ((R.toks.trans R₂).perm List.perm_append_comm) ⟨pM _ _,rfl,hcr⟩ (congrArg (List.cons _) hk) (.cons ((r.own hs).stay (R₂.stay R.st (.inr fun b hb=>List.mem_append_left _ hb))) rs))
@[elab_as_elim] theorem uR{l:List (String×E)}{G:Tab}{R:M→Prop}(h:ev G Φ (.dct l) σ=some (m,σ'))(j:∀fs,evF G Φ l σ=some (fs,σ')→R (.dct fs)):R m:=
  oM h fun p h1 e=>by
    obtain⟨ms,σ₁⟩:=p
    obtain⟨rfl,rfl⟩:=Prod.mk.inj e
    exact j ms h1
noncomputable def uS:Obj:={ cls:=.type "dict",data:=.dict #[] }
theorem xy{l:List (String×E)}{kvs:List (ae×Value)}(h:(l.map (·.1)).Nodup)(hk:kvs.map (·.1)=l.map fun p=>Str.ofString p.1):(kvs.map (·.1)).Nodup:=by
  rw[hk]
  exact List.pairwise_map.mpr ((List.pairwise_map.mp h).imp mQ)
theorem A6{l:List (String×E)}(S₁:SF C Φ d l):SE C Φ d (.dct l):=fun{k y σ p m σ' Q} S hB hc he=>uR he fun fs h1 hq=>Av hc fun ks vs z hc0 hc1 hnd hc2=>by
  obtain⟨hsh,hlen⟩:=sK (env:=k.a.env) (pos:=z) hc2
  have R₀:=(Run.refl S true).push uS rfl
  refine wpAny_Dict_pairs (knd:=PySem.strKind C.cl.prog C.cl.w) hsh (fun e=>absurd (hlen▸hc0) (by rw[e];exact Nat.not_succ_le_zero 0)) (Nat.le_trans (Nat.le_of_eq hlen) (Nat.le_trans hc1 (by decide))) ?_
  refine S₁ (k:=k.on [y.h.objs.size]) (y:=y.push uS) (pos:=z) R₀.st hB hc2 h1 fun us y₁ N kvs R hcr hk rs=>?_
  have ha:y₁.h.get? y.h.objs.size=some uS:=(R.stay R₀.st (fp:=[y.h.objs.size]) (.inr fun b hb=>List.mem_append_left _ hb)).own _ (.head _) _ (cO y uS rfl)
  refine⟨kvs,hcr,⟨uS,#[],0,ha,⟨rfl,rfl,rfl⟩,rfl,(fun e he=>nomatch he),.nil,.nil⟩,fun h' hd hsb=>?_⟩
  rw[merged_nil_of_nodup _ (xy hnd hk)]at hd
  have R₁:=R₀.trans R
  have mv:=a7 (y:=y₁) (t:=y₁.s.toks+us.length) hsb
  obtain⟨o',es,ep,ho',q⟩:=id hd
  have R₂:=(R₁.perm List.perm_append_comm).touch mv (List.mem_append_left _ (.head _)) (d6 y) ⟨o',ho'⟩
  have hn:=(List.nodup_append.mp (List.nodup_append.mp R₂.st.ht.nodup).2.1).2.1
  have hd':∀b∈[y.h.objs.size],b=y.h.objs.size:=fun b hb=>List.mem_singleton.mp hb
  refine hq _ _ _ R₂ (.inl ⟨y.h.objs.size,kvs,N,rfl,rfl,hd,rs.stay ⟨fun b hb=>mv.keep b fun q=>R₁.st.ht.nF (List.mem_append_right _ (List.mem_append_right _ (List.mem_append_left _ (List.mem_append_right _ q)))) hb,fun b hb=>mv.keep b fun q=>?_,mv.fsub⟩⟩)
  exact nd (List.nodup_append.mp hn).1 q hb
end
end Mine.Internal
end
section
namespace Mine.Internal
open PySem PySem.W PySem.Calls PyProof.Rows
structure Arg where
  e:E
  v:Value
  m:M
  f:List Addr
structure ArgOk (C:Cx) (y:Y) (σ:List M) (N:List Addr) (a:Arg):Prop where
  rep:ag C y a.v a.m a.f
  sub:∀b∈a.f,b∈N∨b∈y.os.flatten
  tmp:a.e.temp=true→∀b∈a.f,b∈N
  var:∀i,a.e=.var i→y.ρ[i]?=some a.v∧y.os[i]?=some a.f∧σ[i]?=some a.m∧a.m≠.undef
section
variable {C:Cx} {Φ:Phi} {d:Nat} {k:Kx} {y y':Y} {σ σ' σ₁:List M} {m:M} {as:List Arg} {N N':List Addr}
theorem ArgOk.carry{a:Arg}(h:ArgOk C y σ N a)(R:Run C (k.on N) y σ true y' σ' N'):ArgOk C y' σ' (N'++N) a:=by
  obtain⟨h1,h2,h3⟩:=R.calm rfl
  refine⟨h.rep.stay R.mv.stay0,fun b hb=>(h.sub b hb).imp (List.mem_append_right _) fun q=>h3▸q,fun q b hb=>List.mem_append_right _ (h.tmp q b hb),fun i q=>?_⟩
  rw[h1,h2,h3]
  exact h.var i q
noncomputable def SA(C:Cx)(Φ:Phi)(d:Nat)(l:List E):Prop:=∀{k:Kx} {y:Y} {σ:List M} {ps:List PySem.Expr} {pos:Pos} {ms:List M} {σ':List M} {Q:List Value→Shared→Prop},
  St C k y σ→Bud k.A d→a0 C.G.io k.a.sx l ps=true→E.calms C.G.io l=true→evA C.G Φ l σ=some (ms,σ')→
  (∀(as:List Arg) (y':Y) (N:List Addr),Run C k y σ true y' σ' N→as.map (·.e)=l→as.map (·.m)=ms→(∀a∈as,ArgOk C y' σ' N a)→Q (as.map (·.v)) y'.s)→W C k (spliced (backTo pos (starEach ps k.a.env))) Q y.s
theorem A7:SA C Φ d []:=fun S hB hc hcalm he=>sm he fun hq=>iE hc (wpAny_pure (hq [] _ [] (.refl S _) rfl rfl nin))
theorem mX{e:E}{p:PySem.Expr}{Q:Value→Shared→Prop}(S₁:SE C Φ d e)(S:St C k y σ)(hB:Bud k.A d)(hc:af C.G.io k.a.sx e p=true)(hcalm:e.calm C.G.io=true)(he:ev C.G Φ e σ=some (m,σ'))
    (hq:∀v f y' N,Run C k y σ true y' σ' N→ArgOk C y' σ' N ⟨e,v,m,f⟩→Q v y'.s):W C k (eval p k.a.env) Q y.s:=by
  by_cases hv:∃i,e=.var i
  · obtain⟨i,rfl⟩:=hv
    refine iD hc fun n z hc=>?_
    revert hq
    refine pH (R:=fun σ'=>(∀v f y' N,Run C k y σ true y' σ' N→ArgOk C y' σ' N ⟨.var i,v,m,f⟩→Q v y'.s)→W C k (eval (.Name n z) k.a.env) Q y.s) he fun hm hne hq=>?_
    exact wpAny_Name (eP S hc hm hne fun x u fp L=>hq u fp y [] (.refl S _) ⟨L.rep,fun b hb=>.inr (bW L.o hb),nofun,fun j q=>by cases q;exact⟨L.ρ,L.o,hm,hne⟩⟩) (Sx.isVar_dbg hc)
  · refine S₁ S hB hc he fun v y' N R r=>?_
    have R:=R.mono (c':=true) fun _=>hcalm
    rcases r with r|⟨ht,rfl,f,hf,r⟩
    · exact hq v N y' N R ⟨r,fun b=>.inl,fun _ b h=>h,fun i q=>absurd ⟨i,q⟩ hv⟩
    · exact hq v f y' [] R ⟨r,fun b hb=>.inr (hf b hb),fun q=>absurd (ht.symm.trans q) Bool.false_ne_true,fun i q=>absurd ⟨i,q⟩ hv⟩
@[elab_as_elim] theorem Dl{e:E}{r:List E}{G:Tab}{ms:List M}{R:List M→Prop}(h:evA G Φ (e::r) σ=some (ms,σ'))(j:∀m σ₁ ms,ev G Φ e σ=some (m,σ₁)→evA G Φ r σ₁=some (ms,σ')→R (m::ms)):R ms:=
  oP h fun m₁ σ₁ h1 h=>oM h fun p h2 e=>by
    obtain⟨ms,σ₂⟩:=p
    obtain⟨rfl,rfl⟩:=Prod.mk.inj e
    exact j m₁ σ₁ ms h1 h2
theorem xz{e:E}{r:List E}(S₁:SE C Φ d e)(S₂:SA C Φ d r):SA C Φ d (e::r):=fun{k y σ ps pos ms σ' Q} S hB hc hcalm he=>Dl he fun m σ₁ ms h1 h2 hq=>eO hc fun p q hc1 hc2=>by
  rw[aH (bw hc1)]
  exact bX (mX S₁ S hB hc1 (a2_ hcalm).1 h1 fun v f y₁ N₁ R₁ a₁=>S₂ (k:=k.on N₁) (pos:=pos) R₁.st hB hc2 (a2_ hcalm).2 h2 fun as y₂ N₂ R₂ he hm ha=>
    hq (⟨e,v,m,f⟩::as) y₂ _ (R₁.trans R₂) (congrArg _ he) (congrArg _ hm) fun a h=>(List.mem_cons.mp h).elim (fun q=>q▸a₁.carry R₂) fun q=>⟨(ha a q).rep,fun b hb=>((ha a q).sub b hb).imp (List.mem_append_left _) id,fun w b hb=>List.mem_append_left _ ((ha a q).tmp w b hb),(ha a q).var⟩)
theorem dN{x:Sx}{io:String→List Bool}{env:Env}{pos:Pos}{l:List E}:∀{ps:List PySem.Expr},a0 io x l ps=true→(backTo pos (starEach ps env)).any (·.1)=false:=by
  induction l with
  |nil=>intro ps h;exact iE h rfl
  |cons e r ih=>
    intro ps h
    refine eO h fun p q h1 h2=>?_
    rw[aH (bw h1)]
    exact(Bool.false_or _).trans (ih h2)
theorem mY{A:Around}{s:Shared}{M₀:Model}{n:ae}{np pos:Pos}{ps:List PySem.Expr}{env:Env}{f:Value}{Q E₀:Value→Shared→Prop}{io:String→List Bool}{x:Sx}{l:List E}(hf:(∃id,f=.builtin id)∨∃T,f=.type T)(hl:l≠[])(hc:a0 io x l ps=true)
    (h:wpAny M₀ A (eval (.Name n np) env) (fun v s'=>v=f∧wpAny M₀ A (spliced (backTo pos (starEach ps env))) (fun vs s₂=>wpAny M₀ A (call f vs) Q E₀ s₂) E₀ s') E₀ s):wpAny M₀ A (eval (.Call (.Name n np) ps [] pos) env) Q E₀ s:=by
  refine wpAny_Call_NameR (wpAny_mono h (fun v s' h=>?_) fun _ _ x=>x)
  obtain⟨rfl,h⟩:=h
  obtain⟨e,r,rfl⟩:=List.exists_cons_of_ne_nil hl
  have hp:=dN (env:=env) (pos:=pos) hc
  revert h hp
  refine eO hc fun p q h1 h2=>?_
  rw[aH (bw h1)]
  intro h hp
  rcases hf with⟨id,rfl⟩|⟨T,rfl⟩
  · exact callWith_builtin hp (evalArgs_plain h)
  · exact PyProof.Rows.callWith_type hp (evalArgs_plain h)
theorem pN{f:M→Option M}{z:M}{R:Prop}(h:lf (as.map (·.m)) f=some z)(j:∀a,as=[a]→f a.m=some z→R):R:=by
  rcases as with _|⟨a,_|⟨b,as⟩⟩
  · exact ns h
  · exact j a rfl h
  · exact ns h
theorem A8{f:M→M→Option M}{z:M}{R:Prop}(h:sy (as.map (·.m)) f=some z)(j:∀a b,as=[a,b]→f a.m b.m=some z→R):R:=by
  rcases as with _|⟨a,_|⟨b,_|⟨c,as⟩⟩⟩
  · exact ns h
  · exact ns h
  · exact j a b rfl h
  · exact ns h
theorem nW{n:Nat}(h:n≤big):(n:Int)<2 ^ 63:=by
  have h:n≤1048576:=h
  lia
theorem A9{z:M}{Q:Value→Shared→Prop}(R:Run C k y σ true y' σ' N)(ha:∀a∈as,ArgOk C y' σ' N a)(hz:lf (as.map (·.m)) (fun a=>a.seq?.map fun l=>.v (.int l.length))=some z)(hq:d5 C k y σ true true z σ' Q):W C k (call (.builtin "len") (as.map (·.v))) Q y'.s:=
  pN hz fun a e hz=>oM hz fun xs hx e'=>by
    subst e e'
    exact(ha a (.head _)).rep.seq (R:=fun u=>wpAny _ _ (call _ [u]) Q _ y'.s) hx fun b us f ht hz rm _=>ht.elim
      (fun ht=>PyProof.Rows.len_tuple ht (rm.size.symm▸nW hz) (rm.size.symm▸hq.v R (a4 ..) ⟨_,rfl⟩)) (fun ht=>PyProof.Rows.len_list ht (rm.size.symm▸nW hz) (rm.size.symm▸hq.v R (a4 ..) ⟨_,rfl⟩))
theorem uT{z:M}{Q:Value→Shared→Prop}{g:Value}{p:Int→Int→Prop}[hp:∀a b,Decidable (p a b)]{f:Int→Int→Int}(R:Run C k y σ true y' σ' N)(ha:∀a∈as,ArgOk C y' σ' N a)(hz:sy (as.map (·.m)) (jH fun a b=>some (.v (.int (f a b))))=some z)(hq:d5 C k y σ true true z σ' Q)
    (h:∀{a b:Int} {t u:Tok},(∀h' tk,(∀c o,y'.h.get? c=some o→h'.get? c=some o)→Q (if p a b then .int b u else .int a t) { y'.s with heap:=h',toks:=tk })→W C k (call g [.int a t,.int b u]) Q y'.s)
    (hf:∀a b,f a b=if p a b then b else a:=by exact fun _ _=>rfl):W C k (call g (as.map (·.v))) Q y'.s:=
  A8 hz fun a b e hz=>j9 hz fun i j hi hj e'=>by
    subst e
    obtain rfl:=Option.some.inj e'
    refine xk (R:=fun u v=>wpAny _ _ (call _ [u,v]) Q _ y'.s) (.inl (ha a (.head _)).rep:Val C y' true a.v a.m a.f) (.inl (ha b (.tail _ (.head _))).rep:Val C y' true b.v b.m b.f) hi hj fun t u=>h fun h' tk hk=>?_
    rw[hf]at hq
    by_cases q:p i j
    · rw[if_pos q]at hq ⊢;exact hq.v R (bI hk) ⟨_,rfl⟩
    · rw[if_neg q]at hq ⊢;exact hq.v R (bI hk) ⟨_,rfl⟩
theorem A_{z:M}{Q:Value→Shared→Prop}(R:Run C k y σ true y' σ' N)(ha:∀a∈as,ArgOk C y' σ' N a)(hz:lf (as.map (·.m)) (fun a=>(match a.int? with|some i=>some (.v (.int i))|Option.none=>a.bool?.map fun b=>.v (.int (if b then 1 else 0))))=some z)(hq:d5 C k y σ true true z σ' Q):W C k (call (.type "int") (as.map (·.v))) Q y'.s:=
  pN hz fun a e hz'=>by
    subst e
    have r:=(ha a (.head _)).rep
    cases hi:a.m.int? with
    |some i=>
      rw[hi]at hz'
      obtain rfl:=Option.some.inj hz'
      rw[gh hi]at r
      exact r.2.int_e (R:=fun u=>wpAny _ _ (call _ [u]) Q _ y'.s) fun t=>call_int_int (hq.v0 R ⟨_,rfl⟩)
    |none=>
      rw[hi]at hz'
      refine oM hz' fun b hb e=>?_
      subst e
      rw[cN hb]at r
      show wpAny _ _ (call _ [a.v]) Q _ y'.s
      rw[show a.v=.bool b from r.2]
      exact call_int_bool (hq.v R (a4 ..) ⟨_,rfl⟩)
theorem xA{z:M}{Q:Value→Shared→Prop}(R:Run C k y σ true y' σ' N)(ha:∀a∈as,ArgOk C y' σ' N a)(hz:lf (as.map (·.m)) (fun a=>a.list?.map .lst)=some z)(hq:d5 C k y σ true true z σ' Q):W C k (call (.type "list") (as.map (·.v))) Q y'.s:=
  pN hz fun a e hz=>oM hz fun xs hx e'=>by
    subst e e'
    refine(ha a (.head _)).rep.plain (R:=fun u=>wpAny _ _ (call _ [u]) Q _ y'.s) hx fun b us hl hz rm _=>?_
    obtain⟨j,ho⟩:=hl
    refine call_list_seq b (.inl rfl) ho rfl rfl (fun h' c' hk ha'=>?_) (rm.size.symm▸Nat.le_trans hz (by decide))
    have mv:=bI (y:=y') (t:=y'.s.toks) hk
    exact hq _ (y'.to { y'.s with heap:=h' }) _ (R.drop0.new1 mv (d6 y') ⟨_,ha'⟩) (.inl ⟨_,us,rfl,rfl,⟨c',ha'⟩,hz,rm.stay mv.stay0⟩)
theorem rD{f:String}{ms:List M}{z:M}{R:String→Prop}(h:cu f ms=some z)(k1:lf ms (fun a=>a.seq?.map fun l=>.v (.int l.length))=some z→R "len")(k2:sy ms (jH fun a b=>some (.v (.int (if a<b then b else a))))=some z→R "max")
    (k3:sy ms (jH fun a b=>some (.v (.int (if b<a then b else a))))=some z→R "min")(k4:lf ms (fun a=>(match a.int? with|some i=>some (.v (.int i))|Option.none=>a.bool?.map fun b=>.v (.int (if b then 1 else 0))))=some z→R "int")(k5:lf ms (fun a=>a.list?.map .lst)=some z→R "list"):R f:=by
  unfold cu at h
  by_cases e1:f="len"
  · subst e1;rw[if_pos rfl]at h;exact k1 h
  rw[if_neg e1]at h
  by_cases e1:f="max"
  · subst e1;rw[if_pos rfl]at h;exact k2 h
  rw[if_neg e1]at h
  by_cases e1:f="min"
  · subst e1;rw[if_pos rfl]at h;exact k3 h
  rw[if_neg e1]at h
  by_cases e1:f="int"
  · subst e1;rw[if_pos rfl]at h;exact k4 h
  rw[if_neg e1]at h
  exact oI h fun e1 h=>e1▸k5 h
theorem Dm{f:String}{l:List E}{G:Tab}{R:Prop}(h:ev G Φ (.bi f l) σ=some (m,σ'))(j:∀ms,E.calms G.io l=true→evA G Φ l σ=some (ms,σ')→cu f ms=some m→R):R:=
  oI h fun hs h=>oP h fun ms σ₁ h1 h=>oM h fun z hz e=>by obtain⟨rfl,rfl⟩:=Prod.mk.inj e;exact j ms hs h1 hz
theorem Dn{f:String}{z:M}{ms:List M}{Q:Value→Shared→Prop}(hB:Bud k.A d)(hz:cu f ms=some z)(hq:d5 C k y σ true true z σ' Q):
    f∈dq∧∃g,((∃id,g=.builtin id)∨∃T,g=.type T)∧bootBuiltins (Str.ofString f)=some g∧∀(as:List Arg) (y':Y) (N:List Addr),Run C k y σ true y' σ' N→as.map (·.m)=ms→(∀a∈as,ArgOk C y' σ' N a)→W C k (call g (as.map (·.v))) Q y'.s:=by
  refine rD (R:=fun f=>f∈dq∧∃g,((∃id,g=.builtin id)∨∃T,g=.type T)∧bootBuiltins (Str.ofString f)=some g∧∀(as:List Arg) (y':Y) (N:List Addr),Run C k y σ true y' σ' N→as.map (·.m)=ms→(∀a∈as,ArgOk C y' σ' N a)→W C k (call g (as.map (·.v))) Q y'.s) hz
    (fun hz=>⟨by decide,.builtin "len",.inl ⟨_,rfl⟩,by decide +kernel,fun as y' N R hm ha=>A9 R ha (hm▸hz) hq⟩)
    (fun hz=>⟨by decide,.builtin "max",.inl ⟨_,rfl⟩,by decide +kernel,fun as y' N R hm ha=>uT R ha (hm▸hz) hq fun h=>max_two_ints hB.handled h⟩)
    (fun hz=>⟨by decide,.builtin "min",.inl ⟨_,rfl⟩,by decide +kernel,fun as y' N R hm ha=>uT R ha (hm▸hz) hq fun h=>min_two_ints hB.handled h⟩)
    (fun hz=>⟨by decide,.type "int",.inr ⟨_,rfl⟩,by decide +kernel,fun as y' N R hm ha=>A_ R ha (hm▸hz) hq⟩)
    (fun hz=>⟨by decide,.type "list",.inr ⟨_,rfl⟩,by decide +kernel,fun as y' N R hm ha=>xA R ha (hm▸hz) hq⟩)
theorem sL{f:String}{z:M}{P:Prop}(h:cu f []=some z):P:=rD (R:=fun _=>P) h (fun h=>ns h) (fun h=>ns h) (fun h=>ns h) (fun h=>ns h) fun h=>ns h
theorem Do(FC:Facts C){f:String}{l:List E}(S₁:SA C Φ d l):SE C Φ d (.bi f l):=fun{k y σ p m σ' Q} S hB hc he hq=>Dm he fun ms hcalm h1 hz=>zt hc fun n np es z hg _ hcs=>by
  obtain⟨hin,g,hg',hb,h⟩:=Dn (C:=C) (k:=k) (y:=y) (σ:=σ) (σ':=σ') hB hz fun v y' N R r=>hq v y' N (R.mono fun _=>rfl) r
  refine mY hg' (fun e=>?_) hcs (gO FC S hg hin hb ⟨rfl,S₁ S hB hcs hcalm h1 fun as y' N R _ hm ha=>h as y' N R hm ha⟩)
  subst e
  cases h1
  exact sL hz
end
end Mine.Internal
end
section
namespace Mine.Internal
open PySem PySem.W PySem.Calls PyProof.Rows
section
variable {α β:Type} (c:α→Option Nat) (x:α→β)
noncomputable def sets:List α→List β→List β
  |[],l=>l
  |a::as,l=>sets as (match c a with|some i=>l.set i (x a)|none=>l)
variable {c x}
theorem gR{as:List α}:∀{l:List β},(sets c x as l).length=l.length:=by
  induction as with
  |nil=>intro l;rfl
  |cons a as ih=>
    intro l
    refine ih.trans ?_
    cases c a with
    |none=>rfl
    |some i=>exact List.length_set ..
theorem dO{i:Nat}{as:List α}:∀{l:List β},i∉as.filterMap c→(sets c x as l)[i]?=l[i]?:=by
  induction as with
  |nil=>intro l _;rfl
  |cons a as ih=>
    intro l h
    rw[List.filterMap_cons]at h
    show(sets c x as (match c a with|some i=>l.set i (x a)|none=>l))[i]?=l[i]?
    cases hc:c a with
    |none=>rw[hc]at h;exact ih h
    |some j=>
      rw[hc]at h
      have h:i∉j::as.filterMap c:=h
      exact(ih (List.not_mem_of_not_mem_cons h)).trans (List.getElem?_set_ne (Ne.symm (List.ne_of_not_mem_cons h)))
theorem sM{as:List α}{l:List β}(h:∀a∈as,c a=none):sets c x as l=l:=by
  induction as with
  |nil=>rfl
  |cons a as ih=>
    have ha:=h a (.head _)
    show sets c x as (match c a with|some i=>l.set i (x a)|none=>l)=l
    rw[ha]
    exact ih fun b hb=>h b (.tail _ hb)
theorem rE{i:Nat}{a:α}{as:List α}:∀{l:List β},(as.filterMap c).Nodup→a∈as→c a=some i→i<l.length→(sets c x as l)[i]?=some (x a):=by
  induction as with
  |nil=>intro l _ h;exact absurd h List.not_mem_nil
  |cons b as ih=>
    intro l hd hm hc hl
    rw[List.filterMap_cons]at hd
    show(sets c x as (match c b with|some i=>l.set i (x b)|none=>l))[i]?=some (x a)
    rcases List.mem_cons.mp hm with rfl|hm
    · rw[hc]at hd ⊢
      exact(dO (List.nodup_cons.mp hd).1).trans (List.getElem?_set_self hl)
    · cases hb:c b with
      |none=>rw[hb]at hd;exact ih hd hm hc hl
      |some j=>rw[hb]at hd;exact ih (List.nodup_cons.mp hd).2 hm hc (by rw[List.length_set];exact hl)
theorem dP{i:Nat}{f g:List Addr}{os:List (List Addr)}(h:os[i]?=some f):(os.set i g).flatten.Perm (g++(os.set i []).flatten):=by
  have:=cz (pI (x:=g) h)
  rwa[List.set_set]at this
theorem lN{F G:α→List Addr}{as:List α}:∀{os:List (List Addr)},(as.filterMap c).Nodup→(∀a∈as,∀i,c a=some i→os[i]?=some (F a))→(∀a∈as,c a=none→F a=[]∧G a=[])→(os.flatten++as.flatMap G).Perm ((sets c G as os).flatten++as.flatMap F):=by
  induction as with
  |nil=>intro os _ _ _;exact .refl _
  |cons a as ih=>
    intro os hd hF h0
    rw[List.filterMap_cons]at hd
    rw[List.flatMap_cons,List.flatMap_cons]
    show(os.flatten++(G a++as.flatMap G)).Perm ((sets c G as (match c a with|some i=>os.set i (G a)|none=>os)).flatten++(F a++as.flatMap F))
    have h0':=fun b hb=>h0 b (.tail _ hb)
    cases hc:c a with
    |none=>
      rw[hc]at hd
      obtain⟨e1,e2⟩:=h0 a (.head _) hc
      rw[e1,e2]
      exact ih hd (fun b hb=>hF b (.tail _ hb)) h0'
    |some i=>
      rw[hc]at hd
      have hi:=hF a (.head _) i hc
      obtain⟨hd1,hd2⟩:=List.nodup_cons.mp hd
      have p:=ih (os:=os.set i (G a)) hd2 (fun b hb j hj=>(List.getElem?_set_ne fun e=>hd1 (List.mem_filterMap.mpr ⟨b,hb,hj.trans (congrArg _ e.symm)⟩)).trans (hF b (.tail _ hb) j hj)) h0'
      refine((cz hi).append_right _).trans ((pm [F a,(os.set i []).flatten,G a,as.flatMap G] (.a (.a t0 t1) (.a t2 t3)) (.a (.a (.a t2 t1) t3) t0) rfl).trans (((((dP hi).symm.append_right _).trans p).append_right _).trans ?_))
      exact pm [(sets c G as (os.set i (G a))).flatten,as.flatMap F,F a] (.a (.a t0 t1) t2) (.a t0 (.a t2 t1)) rfl
end
structure Prm extends Arg where
  io:Bool
  out:M
  g:List Addr
noncomputable def Prm.ix(p:Prm):Option Nat:=if p.io then p.e.var? else none
noncomputable def Prm.fi(p:Prm):List Addr:=if p.io then p.f else[]
noncomputable def Prm.gi(p:Prm):List Addr:=if p.io then p.g else[]
theorem uU{e:E}{i:Nat}(h:e.var?=some i):e=.var i:=by
  cases e with
  |var j=>exact congrArg _ (Option.some.inj h)
  |_=>exact ns h
theorem nX:∀{l:List Nat},cV l=true→l.Nodup:=by
  intro l
  induction l with
  |nil=>intro _;exact .nil
  |cons i r ih=>intro h;exact List.nodup_cons.mpr ⟨fun q=>absurd (List.contains_iff_mem.mpr q) (Bool.eq_false_iff.mp (nt (a2_ h).1)),ih (a2_ h).2⟩
theorem uV{ps:List Prm}:ee (ps.map (·.io)) ((ps.map (·.toArg)).map (·.e))=ps.filterMap Prm.ix:=by
  induction ps with
  |nil=>rfl
  |cons p ps ih=>
    rw[List.filterMap_cons]
    show(if p.io=true then(match p.e.var? with|some i=>i::ee (ps.map (·.io)) ((ps.map (·.toArg)).map (·.e))|none=>ee (ps.map (·.io)) ((ps.map (·.toArg)).map (·.e)))else ee (ps.map (·.io)) ((ps.map (·.toArg)).map (·.e)))=_
    rw[ih]
    unfold Prm.ix
    cases p.io with
    |false=>rfl
    |true=>cases p.e.var?<;>rfl
theorem xB{as:List Arg}:∀{io:List Bool} {outs σ σ':List M} {gs:List (List Addr)},gs.length=as.length→cv io (as.map (·.e)) outs σ=some σ'→∃ps:List Prm,ps.map (·.toArg)=as∧ps.map (·.g)=gs∧ps.map (·.io)=io∧(∃r,outs=ps.map (·.out)++r)∧(∀p∈ps,p.io=true→∃i,p.ix=some i)∧σ'=sets Prm.ix (·.out) ps σ:=by
  induction as with
  |nil=>
    intro io outs σ σ' gs hg h
    cases io with
    |nil=>cases h;exact⟨[],rfl,(List.eq_nil_of_length_eq_zero hg).symm,rfl,⟨outs,rfl⟩,nin,rfl⟩
    |cons b r=>exact ns h
  |cons a as ih=>
    intro io outs σ σ' gs hg h
    obtain⟨g,gs,rfl⟩:=List.exists_cons_of_length_eq_add_one hg
    replace hg:=Nat.succ.inj hg
    cases io with
    |nil=>exact ns h
    |cons b r=>
      cases outs with
      |nil=>exact ns h
      |cons o outs=>
        have h:(if b=true then a.e.var?.bind fun i=>if i<σ.length then cv r (as.map (·.e)) outs (σ.set i o)else none else cv r (as.map (·.e)) outs σ)=some σ':=h
        have fin:∀{τ:List M},cv r (as.map (·.e)) outs τ=some σ'→(match Prm.ix ⟨a,b,o,g⟩with|some i=>σ.set i o|none=>σ)=τ→(b=true→∃i,Prm.ix ⟨a,b,o,g⟩=some i)→∃ps:List Prm,ps.map (·.toArg)=a::as∧ps.map (·.g)=g::gs∧ps.map (·.io)=b::r∧(∃r,o::outs=ps.map (·.out)++r)∧(∀p∈ps,p.io=true→∃i,p.ix=some i)∧σ'=sets Prm.ix (·.out) ps σ:=by
          intro τ h e hb
          obtain⟨ps,h1,h0,h2,⟨q,h3⟩,h4,h5⟩:=ih hg h
          exact⟨⟨a,b,o,g⟩::ps,congrArg _ h1,congrArg _ h0,congrArg _ h2,⟨q,congrArg _ h3⟩,fun p hp=>(List.mem_cons.mp hp).elim (fun e=>e▸hb) (h4 p),by rw[h5,←e];rfl⟩
        cases b with
        |false=>exact fin h rfl fun h=>absurd h Bool.false_ne_true
        |true=>
          refine oB h fun i hi h=>oI h fun hl h=>fin h ?_ fun _=>⟨i,hi⟩
          show(match a.e.var? with|some i=>σ.set i o|none=>σ)=_
          rw[hi]
noncomputable def iof(io:List Bool)(fs:List (List Addr)):List Addr:=(io.zip fs).flatMap fun p=>if p.1 then p.2 else[]
theorem Dp{ps:List Prm}:iof (ps.map (·.io)) ((ps.map (·.toArg)).map (·.f))=ps.flatMap Prm.fi:=by
  induction ps with
  |nil=>rfl
  |cons p ps ih=>exact congrArg (List.append p.fi) ih
theorem Dq{ps:List Prm}:iof (ps.map (·.io)) (ps.map (·.g))=ps.flatMap Prm.gi:=by
  induction ps with
  |nil=>rfl
  |cons p ps ih=>exact congrArg (List.append p.gi) ih
theorem Ba{α:Type}{l:List α}:l.flatMap (fun _=>([]:List Addr))=[]:=List.flatMap_eq_nil_iff.mpr fun _ _=>rfl
theorem uW{as:List Arg}{io:List Bool}{outs σ σ':List M}{gs os:List (List Addr)}(hl:gs.length=as.length)(hd:cV (ee io (as.map (·.e)))=true)(hs:cv io (as.map (·.e)) outs σ=some σ')(ho:∀a∈as,∀i,a.e=.var i→os[i]?=some a.f):
    ∃ps:List Prm,ps.map (·.toArg)=as∧ps.map (·.g)=gs∧ps.map (·.io)=io∧(∃r,outs=ps.map (·.out)++r)∧σ'=sets Prm.ix (·.out) ps σ∧(ps.filterMap Prm.ix).Nodup∧
      os.flatten.Perm ((sets Prm.ix (fun _=>[]) ps os).flatten++iof io (as.map (·.f)))∧(sets Prm.ix Prm.gi ps os).flatten.Perm ((sets Prm.ix (fun _=>[]) ps os).flatten++iof io gs):=by
  obtain⟨ps,rfl,rfl,rfl,h4,h5,h6⟩:=xB hl hs
  have hn:=nX (uV▸hd)
  have hF:∀p∈ps,∀i,p.ix=some i→os[i]?=some p.fi:=by
    intro p hp i hi
    unfold Prm.ix at hi
    unfold Prm.fi
    cases hio:p.io with
    |false=>rw[hio]at hi;exact ns hi
    |true=>
      rw[hio]at hi
      exact ho p.toArg (List.mem_map.mpr ⟨p,hp,rfl⟩) i (uU hi)
  have h0:∀p∈ps,p.ix=none→p.io=false:=fun p hp hi=>Bool.eq_false_iff.mpr fun q=>(h5 p hp q).elim fun i e=>ns (hi.symm.trans e)
  have h0f:∀p∈ps,p.ix=none→p.fi=[]:=fun p hp hi=>by unfold Prm.fi;rw[h0 p hp hi];rfl
  have h0g:∀p∈ps,p.ix=none→p.gi=[]:=fun p hp hi=>by unfold Prm.gi;rw[h0 p hp hi];rfl
  have p1:=lN (G:=fun _=>[]) hn hF fun p hp hi=>⟨h0f p hp hi,rfl⟩
  have p2:=lN (G:=Prm.gi) hn hF fun p hp hi=>⟨h0f p hp hi,h0g p hp hi⟩
  rw[Ba,List.append_nil]at p1
  refine⟨ps,rfl,rfl,rfl,h4,h6,hn,Dp▸p1,Dq▸(List.perm_append_right_iff (ps.flatMap Prm.fi)).mp (p2.symm.trans ((p1.append_right _).trans ?_))⟩
  exact pm [(sets Prm.ix (fun _=>[]) ps os).flatten,ps.flatMap Prm.fi,ps.flatMap Prm.gi] (.a (.a t0 t1) t2) (.a (.a t0 t2) t1) rfl
end Mine.Internal
end
section
namespace Mine.Internal
open PySem PySem.W PySem.Calls PyProof.Rows
structure Ret (C:Cx) (y:Y) (io:List Bool) (as:List Arg) (X:List Addr) (r:M) (outs:List M) (v:Value) (y':Y) (fr:List Addr) (gs:List (List Addr)):Prop where
  mv:Mv y y' (as.flatMap (·.f))
  len:gs.length=as.length
  ht:HT C y' (fr++(iof io gs++X))
  rep:ag C y' v r fr
  out:∀(i:Nat) u m g,io[i]?=some true→(as.map (·.v))[i]?=some u→outs[i]?=some m→gs[i]?=some g→ag C y' u m g
  dirt:∀b,b∈iof io gs∨b∈fr→b∈as.flatMap (·.f)∨y.no b
noncomputable def bM(C:Cx)(Φ:Phi)(d:Nat):Prop:=∀(key:String) (ms:List M) (r:M) (outs:List M),Φ key ms=some (r,outs)→∃(fn:Fn) (f:Addr),C.tab key=some fn∧C.fa key=some f∧
  ∀{A:Around} {y:Y} {as:List Arg} {X:List Addr} {Q:Value→Shared→Prop},BudC A d→as.map (·.m)=ms→(∀a∈as,ag C y a.v a.m a.f)→HT C y (as.flatMap (·.f)++X)→
    (∀v y' fr gs,Ret C y fn.io as X r outs v y' fr gs→Q v y'.s)→codeAny (model C.cl.prog C.cl.w) A (.call (.ref f) ⟨as.map (·.v),[]⟩) (fun res s'=>∃v,res=.ok (.ret v)∧Q v s') y.s
section
variable {C:Cx} {Φ:Phi} {d:Nat} {k:Kx} {y y' y₁:Y} {σ σ' σ₁:List M} {as:List Arg} {ps:List Prm} {N Z:List Addr} {a:Act}
theorem nf{a:Bool}(h:(!a)=false):a=true:=by cases a<;>first|rfl|exact absurd h.symm Bool.false_ne_true
theorem rF:∀{io:List Bool} {bs:List M},fE io (as.map (·.m))=some bs→(∀a∈as,ag C y a.v a.m a.f)→(∀p∈io.zip as,p.1=false→∀b∈p.2.f,b∈Z)→
    ∃cs:List Arg,cs.map (·.m)=bs∧cs.map (·.v)=as.map (·.v)∧cs.flatMap (·.f)=iof io (as.map (·.f))∧∀c∈cs,ag C (y.fz Z) c.v c.m c.f:=by
  induction as with
  |nil=>
    intro io bs h _ _
    cases io with
    |nil=>cases h;exact⟨[],rfl,rfl,rfl,nin⟩
    |cons b r=>exact ns h
  |cons a as ih=>
    intro io bs h hr hz
    cases io with
    |nil=>exact ns h
    |cons b r=>
      have hr':=fun a h=>hr a (List.mem_cons_of_mem _ h)
      have hz':=fun p h=>hz p (List.mem_cons_of_mem _ h)
      cases b with
      |true=>
        have h:(fE r (as.map (·.m))).map (a.m:: ·)=some bs:=h
        refine oM h fun ms hm e=>?_
        obtain⟨cs,h1,h2,h3,h4⟩:=ih hm hr' hz'
        exact⟨a::cs,e▸congrArg (List.cons a.m) h1,congrArg (List.cons a.v) h2,congrArg (List.append a.f) h3,fun c hc=>(List.mem_cons.mp hc).elim (fun q=>q▸(hr a (.head _)).stay Stay.fz) (h4 c)⟩
      |false=>
        have h:(a.m.lend.bind fun x=>(fE r (as.map (·.m))).map (x:: ·))=some bs:=h
        refine oB h fun x hx h=>oM hx fun z hz0 e0=>oM h fun ms hm e=>?_
        obtain⟨cs,h1,h2,h3,h4⟩:=ih hm hr' hz'
        refine⟨⟨a.e,a.v,.v z,[]⟩::cs,e▸e0▸congrArg (List.cons (M.v z)) h1,congrArg (List.cons a.v) h2,h3,fun c hc=>(List.mem_cons.mp hc).elim (fun q=>q▸⟨rfl,((hr a (.head _)).frz hz0).stay (Stay.fzs (hz (false,a) (.head _) rfl))⟩) (h4 c)⟩
theorem Bb:∀{io:List Bool},lg io (as.map (·.e)) (as.map (·.m))=false→(∀a∈as,ArgOk C y σ N a)→∀p∈io.zip as,p.1=false→∀b∈p.2.f,b∈N:=by
  induction as with
  |nil=>intro io _ _;rw[List.zip_nil_right];exact nin
  |cons a as ih=>
    intro io h ha
    cases io with
    |nil=>exact nin
    |cons b r=>
      have h:(!b&&(!a.e.temp&&!a.m.isV)||lg r (as.map (·.e)) (as.map (·.m)))=false:=h
      obtain⟨h1,h2⟩:=Bool.or_eq_false_iff.mp h
      intro p hp
      rcases List.mem_cons.mp hp with rfl|hp
      · intro hb c hc
        have hb:b=false:=hb
        subst hb
        have ha:=ha a (.head _)
        rcases Bool.and_eq_false_iff.mp (show(!a.e.temp&&!a.m.isV)=false from h1)with q|q
        · exact ha.tmp (nf q) c hc
        · obtain⟨x,hx⟩:=j6 (nf q)
          have r:=ha.rep
          rw[hx]at r
          rw[r.1]at hc
          exact absurd hc List.not_mem_nil
      · exact ih h2 (fun a h=>ha a (.tail _ h)) p hp
theorem Vars.sets(hE:EnvOk a)(V:Vars C a y σ)(T:Stay y y' (a.fr++(sets Prm.ix (fun _=>[]) ps y.os).flatten))(hd:(ps.filterMap Prm.ix).Nodup)(hv:∀p∈ps,∀i,p.ix=some i→y.ρ[i]?=some p.v∧σ[i]?=some p.m∧p.m≠.undef)
    (hr:∀p∈ps,∀i,p.ix=some i→ag C y' p.v p.out p.gi):Vars C a (y'.va y.ρ (Mine.Internal.sets Prm.ix Prm.gi ps y.os)) (Mine.Internal.sets Prm.ix (·.out) ps σ):=by
  have up:∀{u m f},ag C y' u m f→ag C (y'.va y.ρ (Mine.Internal.sets Prm.ix Prm.gi ps y.os)) u m f:=fun r=>r.stay (.up rfl fun _ h=>h)
  have hat:∀{j:Nat} {x u},a.At y j x u→a.At (y'.va y.ρ (Mine.Internal.sets Prm.ix Prm.gi ps y.os)) j x u:=fun h=>h.stay hE fun b hb=>T.own b (List.mem_append_left _ hb)
  have get:∀{j:Nat} {m:M} {P:Prop},(Mine.Internal.sets Prm.ix (·.out) ps σ)[j]?=some m→(∀p∈ps,p.ix=some j→m=p.out→(Mine.Internal.sets Prm.ix Prm.gi ps y.os)[j]?=some p.gi→P)→(j∉ps.filterMap Prm.ix→σ[j]?=some m→P)→P:=by
    intro j m P h k1 k2
    by_cases q:j∈ps.filterMap Prm.ix
    · obtain⟨p,hp,hi⟩:=List.mem_filterMap.mp q
      have hl:=bL (hv p hp j hi).2.1
      rw[rE hd hp hi hl]at h
      exact k1 p hp hi (Option.some.inj h).symm (rE hd hp hi (V.lenO▸hl))
    · exact k2 q ((dO q).symm.trans h)
  refine⟨V.lenR.trans gR.symm,gR.trans (V.lenO.trans gR.symm),V.lenV.trans gR.symm,?_,fun x c e=>?_,fun j m e hne=>?_,fun j e=>?_,V.pin⟩
  · obtain⟨m,o,es,ep,ho,q⟩:=V.ns;exact⟨m,o,es,ep,T.own _ (List.mem_append_left _ hE.locals) o ho,q⟩
  · obtain⟨u,o,ho,q⟩:=V.cell x c e;exact⟨u,o,T.own _ (List.mem_append_left _ (hE.cells x c e)) o ho,q⟩
  · refine get e (fun p hp hi em eg=>?_) fun q e=>?_
    · obtain⟨h1,h2,h3⟩:=hv p hp j hi
      obtain⟨x,u,f,L⟩:=V.at_ j p.m h2 h3
      obtain rfl:p.v=u:=Option.some.inj (h1.symm.trans L.ρ)
      exact⟨x,p.v,p.gi,L.v,L.ρ,eg,hat L.at_,em▸up (hr p hp j hi)⟩
    · obtain⟨x,u,f,L⟩:=V.at_ j m e hne
      have hf:(Mine.Internal.sets Prm.ix (fun _=>([]:List Addr)) ps y.os)[j]?=some f:=(dO q).trans L.o
      exact⟨x,u,f,L.v,L.ρ,(dO q).trans L.o,hat L.at_,up (L.rep.stay (T.sub fun b hb=>List.mem_append_right _ (bW hf hb)))⟩
  · refine get e (fun p hp hi em eg=>?_) fun q e=>(dO q).trans (V.und j e)
    have r:=hr p hp j hi
    rw[←em]at r
    exact eg.trans (congrArg some r)
theorem oN{α:Type}{c:Prop}[d:Decidable c]{x:Option α}{r:α}{R:Prop}(h:(if c then none else x)=some r)(k:¬c→x=some r→R):R:=by
  cases d with
  |isTrue q=>exact ns h
  |isFalse q=>exact k q h
theorem rG{key:String}{io:List Bool}{es:List E}{ms:List M}{r:M}{R:Prop}(h:apply Φ key io es ms σ=some (r,σ'))(j:∀bs outs,cV (ee io es)=true→fE io ms=some bs→Φ key bs=some (r,outs)→(lg io es ms=true→r.indep=true∧io.all (!·)=true)→cv io es outs σ=some σ'→R):R:=
  oI h fun hd h=>oB h fun bs hl h=>oP h fun r' outs hΦ h=>oN h fun q h=>oM h fun σ'' hs e=>by
    obtain⟨rfl,rfl⟩:=Prod.mk.inj e
    exact j bs outs hd hl hΦ (fun ho=>by rw[ho,Bool.true_and]at q;exact a2_ (nf (Bool.eq_false_iff.mpr q))) hs
theorem gS{io:List Bool}:∀{fs:List (List Addr)},io.all (!·)=true→iof io fs=[]:=by
  induction io with
  |nil=>intro fs _;rfl
  |cons b r ih=>
    intro fs h
    cases fs with
    |nil=>rfl
    |cons f fs=>
      have h:(!b&&r.all (!·))=true:=h
      cases b with
      |true=>exact absurd (a2_ h).1 Bool.false_ne_true
      |false=>exact ih (a2_ h).2
theorem kf{es:List E}:∀{io:List Bool} {outs σ σ':List M},io.all (!·)=true→cv io es outs σ=some σ'→σ'=σ:=by
  induction es with
  |nil=>intro io outs σ σ' _ h;cases io<;>first|exact(Option.some.inj h).symm|exact ns h
  |cons e es ih=>
    intro io outs σ σ' h hs
    cases io with
    |nil=>exact ns hs
    |cons b r=>
      cases outs with
      |nil=>exact ns hs
      |cons o outs=>
        have h:(!b&&r.all (!·))=true:=h
        cases b with
        |true=>exact absurd (a2_ h).1 Bool.false_ne_true
        |false=>exact ih (a2_ h).2 hs
theorem Bc{α β:Type}{f:α→β}{l:List α}{r:List β}{i:Nat}{a:α}(h:l[i]?=some a):(l.map f++r)[i]?=some (f a):=by
  rw[List.getElem?_append_left (by rw[List.length_map];exact bL h),List.getElem?_map,h];rfl
theorem ju{α β:Type}{f:α→β}{l:List α}{i:Nat}{a:α}(h:l[i]?=some a):(l.map f)[i]?=some (f a):=by rw[List.getElem?_map,h];rfl
theorem Bd{io:List Bool}{outs bs:List M}{r:M}{A:Around}{f:Addr}{Q:Value→Shared→Prop}(H:∀{A:Around} {y:Y} {as:List Arg} {X:List Addr} {Q:Value→Shared→Prop},BudC A d→as.map (·.m)=bs→(∀a∈as,ag C y a.v a.m a.f)→HT C y (as.flatMap (·.f)++X)→
      (∀v y' fr gs,Ret C y io as X r outs v y' fr gs→Q v y'.s)→codeAny (model C.cl.prog C.cl.w) A (.call (.ref f) ⟨as.map (·.v),[]⟩) (fun res s'=>∃v,res=.ok (.ret v)∧Q v s') y.s)
    (hd:cV (ee io (as.map (·.e)))=true)(hl:fE io (as.map (·.m))=some bs)(ho:lg io (as.map (·.e)) (as.map (·.m))=false)(hs:cv io (as.map (·.e)) outs σ₁=some σ')(R:Run C k y σ true y₁ σ₁ N)(hA:∀a∈as,ArgOk C y₁ σ₁ N a)(B:BudC A d)
    (hq:∀v y' N',Run C k y σ (io.all (!·)) y' σ' N'→ag C y' v r N'→Q v y'.s):codeAny (model C.cl.prog C.cl.w) A (.call (.ref f) ⟨as.map (·.v),[]⟩) (fun res s'=>∃v,res=.ok (.ret v)∧Q v s') y₁.s:=by
  have hos:∀a∈as,∀i,a.e=.var i→y₁.os[i]?=some a.f:=fun a h i e=>((hA a h).var i e).2.1
  obtain⟨cs,c1,c2,c3,c4⟩:=rF (y:=y₁) hl (fun a h=>(hA a h).rep) (Bb ho hA)
  obtain⟨_,_,_,_,_,_,_,p0,_⟩:=uW (gs:=as.map (·.f)) (List.length_map ..) hd hs hos
  generalize(Mine.Internal.sets Prm.ix (fun _=>([]:List Addr)) _ y₁.os).flatten=rest at p0
  generalize hF:iof io (as.map (·.f))=F at c3 p0
  have H0:HT C (y₁.fz N) (F++(rest++(k.a.fr++k.X))):=HT.freeze (R.st.ht.perm ((List.Perm.append_left _ (p0.append_right _)).trans (pm [k.a.fr,rest,F,N,k.X] (.a t0 (.a (.a t1 t2) (.a t3 t4))) (.a t3 (.a t2 (.a t1 (.a t0 t4)))) rfl)))
  rw[←c2]
  refine H (y:=y₁.fz N) B c1 c4 (c3▸H0) fun v y' fr gs P=>?_
  have hlen:cs.length=as.length:=by have:=congrArg List.length c2;rwa[List.length_map,List.length_map]at this
  obtain⟨ps,q1,q2,q3,⟨rr,q4⟩,q5,q6,q7,q8⟩:=uW (P.len.trans hlen) hd hs hos
  rw[hF]at q7
  have hrest:=(List.perm_append_right_iff F).mp (p0.symm.trans q7)
  have hmv:=P.mv
  rw[c3]at hmv
  have mv:Mv y₁ (y'.va y₁.ρ (Mine.Internal.sets Prm.ix Prm.gi ps y₁.os)) F:=⟨hmv.same,hmv.keep,fun b hb=>hmv.fsub b (.inl hb)⟩
  have hsub:∀b∈F,b∈y₁.os.flatten:=fun b hb=>p0.mem_iff.mpr (List.mem_append_right _ hb)
  have hix:∀p∈ps,∀i,p.ix=some i→p.io=true∧p.e=.var i:=fun p hp i hi=>by
    unfold Prm.ix at hi
    cases hio:p.io with
    |false=>rw[hio]at hi;exact ns hi
    |true=>rw[hio]at hi;exact⟨rfl,uU hi⟩
  have T:Stay y₁ (y'.va y₁.ρ (Mine.Internal.sets Prm.ix Prm.gi ps y₁.os)) (k.a.fr++(Mine.Internal.sets Prm.ix (fun _=>([]:List Addr)) ps y₁.os).flatten):=
    (mv.stay (C:=C) (O:=k.a.fr++rest) ((R.st.ht.perm ((List.Perm.append_left _ (p0.append_right _)).trans (pm [k.a.fr,rest,F,N++k.X] (.a t0 (.a (.a t1 t2) t3)) (.a (.a t2 (.a t0 t1)) t3) rfl))).sub (List.sublist_append_left _ _))).sub fun b hb=>(List.mem_append.mp hb).elim (List.mem_append_left _) fun q=>List.mem_append_right _ (hrest.mem_iff.mpr q)
  have V:=R.st.vars.sets k.hE (y':=y') (T.trans (.up rfl fun _ h=>h)) q6 (fun p hp i hi=>by
      obtain⟨h1,_,h3⟩:=(hA p.toArg (q1▸List.mem_map.mpr ⟨p,hp,rfl⟩)).var i (hix p hp i hi).2
      exact⟨h1,h3⟩) fun p hp i hi=>by
    obtain⟨j,hj⟩:=List.getElem?_of_mem hp
    have hio:=(hix p hp i hi).1
    unfold Prm.gi
    rw[hio]
    refine P.out j p.v p.out p.g (q3▸(ju hj).trans (congrArg some hio)) ?_ (q4▸Bc hj) (q2▸ju hj)
    rw[c2,←q1]
    exact ju (ju hj)
  obtain⟨e1,e2,e3⟩:=R.calm rfl
  refine hq v (y'.va y₁.ρ (Mine.Internal.sets Prm.ix Prm.gi ps y₁.os)) fr ⟨R.mv.wide0.trans mv fun x hx=>.inl ?_,⟨(P.ht.perm ?_).re rfl rfl,q5▸V⟩,fun h=>⟨(kf h hs).trans e1,e2,(sM fun p hp=>?_).trans e3⟩,fun i _=>congrArg (·[i]?) e2,fun b hb=>?_,fun j hj=>?_⟩ (P.rep.stay (.up rfl fun _ h=>h))
  · cases h:io.all (!·)with
    |true=>rw[←hF,gS h]at hx;exact absurd hx List.not_mem_nil
    |false=>exact(show x∈y.os.flatten from e3▸hsub x hx)
  · exact(pm [fr,iof io gs,rest,k.a.fr,k.X] (.a t0 (.a t1 (.a t2 (.a t3 t4)))) (.a t3 (.a (.a t2 t1) (.a t0 t4))) rfl).trans (.append_left _ (.append_right _ ((hrest.append_right _).trans q8.symm)))
  · cases hi:p.ix with
    |none=>rfl
    |some i=>
      have:p.io=false:=nt (List.all_eq_true.mp h p.io (q3▸List.mem_map.mpr ⟨p,hp,rfl⟩))
      rw[(hix p hp i hi).1]at this
      exact Bool.noConfusion this
  · have old:∀{b},b∈iof io gs∨b∈fr→b∈y.os.flatten∨y.no b:=fun hb=>(P.dirt _ hb).elim (fun q=>.inl (e3▸hsub _ (c3▸q))) fun q=>R.old q
    exact hb.elim (fun hb=>(List.mem_append.mp (q8.mem_iff.mp hb)).elim (fun q=>.inl (e3▸q7.mem_iff.mpr (List.mem_append_left _ q))) fun q=>old (.inl q)) fun hb=>old (.inr hb)
  · rw[q5]
    by_cases q:j∈ps.filterMap Prm.ix
    · obtain⟨p,hp,hi⟩:=List.mem_filterMap.mp q
      obtain⟨_,_,h3,h4⟩:=(hA p.toArg (q1▸List.mem_map.mpr ⟨p,hp,rfl⟩)).var j (hix p hp j hi).2
      exact absurd (Option.some.inj (h3.symm.trans (e1▸hj))) h4
    · exact(dO q).trans (e1▸hj)
theorem Vars.each(V:Vars C a y σ):∀b∈y.os.flatten,∃o,y.h.get? b=some o∧o.cls≠.type "tuple":=fun b hb=>by
  obtain⟨l,hl,hb⟩:=List.mem_flatten.mp hb
  obtain⟨i,hi⟩:=List.getElem?_of_mem hl
  have hs:i<σ.length:=V.lenO▸bL hi
  by_cases hu:σ[i]=.undef
  · rw[Option.some.inj (hi.symm.trans (V.und i (by rw[List.getElem?_eq_getElem hs,hu])))]at hb
    exact absurd hb List.not_mem_nil
  · obtain⟨x,u,f,L⟩:=V.at_ i σ[i] (List.getElem?_eq_getElem hs) hu
    exact L.rep.each b (Option.some.inj (hi.symm.trans L.o)▸hb)
noncomputable def Y.back(y' y:Y):Y:=⟨y'.s,fun b=>y'.F b∧b∉y.os.flatten,y.ρ,y.os⟩
theorem xC{io:List Bool}{outs bs:List M}{r:M}{A:Around}{f:Addr}{Q:Value→Shared→Prop}(H:∀{A:Around} {y:Y} {as:List Arg} {X:List Addr} {Q:Value→Shared→Prop},BudC A d→as.map (·.m)=bs→(∀a∈as,ag C y a.v a.m a.f)→HT C y (as.flatMap (·.f)++X)→
      (∀v y' fr gs,Ret C y io as X r outs v y' fr gs→Q v y'.s)→codeAny (model C.cl.prog C.cl.w) A (.call (.ref f) ⟨as.map (·.v),[]⟩) (fun res s'=>∃v,res=.ok (.ret v)∧Q v s') y.s)
    (hl:fE io (as.map (·.m))=some bs)(hind:r.indep=true)(hall:io.all (!·)=true)(hs:cv io (as.map (·.e)) outs σ₁=some σ')(R:Run C k y σ true y₁ σ₁ N)(hA:∀a∈as,ArgOk C y₁ σ₁ N a)(B:BudC A d)
    (hq:∀v y' N',Run C k y σ (io.all (!·)) y' σ' N'→ag C y' v r N'→Q v y'.s):codeAny (model C.cl.prog C.cl.w) A (.call (.ref f) ⟨as.map (·.v),[]⟩) (fun res s'=>∃v,res=.ok (.ret v)∧Q v s') y₁.s:=by
  obtain⟨cs,c1,c2,c3,c4⟩:=rF (y:=y₁) (Z:=N++y₁.os.flatten) hl (fun a h=>(hA a h).rep) fun p hp _ b hb=>List.mem_append.mpr ((hA p.2 (List.of_mem_zip (a:=p.1) (b:=p.2) hp).2).sub b hb)
  rw[gS hall]at c3
  have H0:HT C (y₁.fz (N++y₁.os.flatten)) (cs.flatMap (·.f)++(k.a.fr++k.X)):=c3▸HT.freeze (R.st.ht.perm (pm [k.a.fr,y₁.os.flatten,N,k.X] (.a t0 (.a t1 (.a t2 t3))) (.a (.a t2 t1) (.a t0 t3)) rfl))
  rw[←c2]
  refine H (y:=y₁.fz (N++y₁.os.flatten)) B c1 c4 H0 fun v y' fr gs P=>?_
  obtain rfl:=kf hall hs
  have hm:=P.mv
  rw[c3]at hm
  have ht:=P.ht
  rw[gS hall]at ht
  have HR:=R.st.ht
  have own:∀{b},b∈y₁.os.flatten→b∈k.a.fr++(y₁.os.flatten++(N++k.X)):=fun q=>List.mem_append_right _ (List.mem_append_left _ q)
  have hnF:∀b,y₁.F b→b∉y₁.os.flatten:=fun b hb q=>HR.nF (own q) hb
  have hosF:∀b∈y₁.os.flatten,y'.F b:=fun b hb=>hm.fsub b (.inr (List.mem_append_right _ hb))
  have mv:Mv y₁ (y'.back y₁) []:=⟨hm.same,hm.keep,fun b hb=>⟨hm.fsub b (.inl hb),hnF b hb⟩⟩
  have key:HT C (y'.back y₁) (y₁.os.flatten++(fr++(k.a.fr++k.X))):=by
    refine⟨ht.stays,List.nodup_append.mpr ⟨(List.nodup_append.mp (List.nodup_append.mp HR.nodup).2.1).1,ht.nodup,fun x hx z hz e=>ht.nF (e▸hz) (hosF x hx)⟩,fun b hb=>?_,fun b hb=>ht.old b hb.1,fun b o e=>⟨ht.base' b o e,fun q=>HR.base e (own q)⟩⟩
    rcases List.mem_append.mp hb with hb|hb
    · obtain⟨_,h2,h3⟩:=HR.own b (own hb)
      exact⟨fun q=>q.2 hb,h2,(mv.keep b nofun).has h3⟩
    · obtain⟨h1,h2⟩:=ht.own b hb
      exact⟨fun q=>h1 q.1,h2⟩
  obtain⟨e1,e2,e3⟩:=R.calm rfl
  refine hq v (y'.back y₁) fr ⟨(R.mv.trans0 mv).wide0,⟨key.perm (pm [y₁.os.flatten,fr,k.a.fr,k.X] (.a t0 (.a t1 (.a t2 t3))) (.a t2 (.a t0 (.a t1 t3))) rfl),R.st.vars.stay k.hE mv.stay0 rfl rfl⟩,fun _=>⟨e1,e2,e3⟩,fun i _=>congrArg (·[i]?) e2,fun b hb=>hb.elim (fun q=>.inl (e3▸q)) fun q=>(P.dirt b (.inr q)).elim (fun w=>absurd (c3▸w) List.not_mem_nil) R.old,R.und⟩ ?_
  refine P.rep.indep (fun b=>.of rfl) (fun b vs hF htp=>⟨hF,fun q=>?_⟩) hind
  obtain⟨o,h1,h2⟩:=R.st.vars.each b q
  obtain⟨o',h3,h4,_⟩:=htp
  exact h2 (Option.some.inj ((hm.keep b nofun o h1).symm.trans h3)▸h4)
theorem nY(CO:bM C Φ d){key:String}{io:List Bool}{es:List E}{ms:List M}{r:M}{A:Around}{Q:Value→Shared→Prop}(ha:apply Φ key io es ms σ₁=some (r,σ'))(hio:∀fn,C.tab key=some fn→fn.io=io)
    (R:Run C k y σ true y₁ σ₁ N)(he:as.map (·.e)=es)(hm:as.map (·.m)=ms)(hA:∀a∈as,ArgOk C y₁ σ₁ N a)(B:BudC A d)(hq:∀v y' N',Run C k y σ (io.all (!·)) y' σ' N'→ag C y' v r N'→Q v y'.s):
    ∃f,C.fa key=some f∧codeAny (model C.cl.prog C.cl.w) A (.call (.ref f) ⟨as.map (·.v),[]⟩) (fun res s'=>∃v,res=.ok (.ret v)∧Q v s') y₁.s:=by
  subst he hm
  refine rG ha fun bs outs hd hl hΦ how hs=>?_
  obtain⟨fn,f,ht,hf,H⟩:=CO key bs r outs hΦ
  obtain rfl:=hio fn ht
  cases ho:lg fn.io (as.map (·.e)) (as.map (·.m))with
  |false=>exact⟨f,hf,Bd H hd hl ho hs R hA B hq⟩
  |true=>exact⟨f,hf,xC H hl (how ho).1 (how ho).2 hs R hA B hq⟩
end
end Mine.Internal
end
section
namespace Mine.Internal
open PySem PySem.W PySem.Calls PyProof.Rows
section
variable {C:Cx} {Φ:Phi} {d:Nat} {k:Kx} {y y':Y} {σ σ' σ₁:List M} {m:M} {N:List Addr}
theorem rH(io:List Bool):(!io.any id)=io.all (!·):=by induction io<;>simp_all
theorem iH{fv:Value}{pos:Pos}{first:List Value}{l:List E}{ps:List PySem.Expr}{ms:List M}{Q:Value→Shared→Prop}(FC:Facts C)(S₁:SA C Φ d l)(hk:keepIn C.K fv=true)(S:St C k y σ)(hB:Bud k.A d)(hc:a0 C.G.io k.a.sx l ps=true)
    (hcalm:E.calms C.G.io l=true)(he:evA C.G Φ l σ=some (ms,σ'))
    (h:∀(as:List Arg) (y':Y) (N:List Addr),Run C k y σ true y' σ' N→as.map (·.e)=l→as.map (·.m)=ms→(∀a∈as,ArgOk C y' σ' N a)→codeAny (model C.cl.prog C.cl.w) k.A (.call fv ⟨first++as.map (·.v),[]⟩) (fun res s''=>∃v,res=.ok (.ret v)∧Q v s'') y'.s):
    W C k (callWith pos fv first (backTo pos (starEach ps k.a.env)) []) Q y.s:=by
  have call:∀{vs s'},codeAny (model C.cl.prog C.cl.w) k.A (.call fv ⟨first++vs,[]⟩) (fun res s''=>∃v,res=.ok (.ret v)∧Q v s'') s'→W C k (call fv (first++vs)) Q s':=fun hc=>
    wpAny_call (codeAny_mono hc fun r s' h=>h.elim fun v h=>h.1▸h.2)
  have T:=S₁ (pos:=pos) (Q:=fun vs s'=>C.K.In s'.heap∧W C k (PySem.call fv (first++vs)) Q s') S hB hc hcalm he fun as y' N R e1 e2 ha=>⟨kb FC R.st.ht,call (h as y' N R e1 e2 ha)⟩
  have hp:=dN (env:=k.a.env) (pos:=pos) hc
  revert T hp
  cases l with
  |nil=>
    cases he
    exact iE hc fun _ _=>callWith_K0 (kb FC S.ht) hk (call (h [] y [] (.refl S _) rfl rfl nin))
  |cons e r=>
    refine eO hc fun p q h1 h2 T hp=>?_
    refine callWith_K (kb FC S.ht) hk T (aH (bw h1)) ?_
    rw[aH (bw h1)]at hp
    exact(Bool.false_or _).symm.trans hp
theorem lO{key:String}{io:List Bool}{es:List E}{ms:List M}{r:M}(CO:bM C Φ d)(h:apply Φ key io es ms σ=some (r,σ')):∃f,C.fa key=some f:=
  rG h fun bs outs _ _ hΦ _ _=>(CO key bs r outs hΦ).elim fun fn h=>h.elim fun f h=>⟨f,h.2.1⟩
theorem zE(CO:bM C Φ d){key:String}{f:Addr}{io:List Bool}{as:List Arg}{es:List E}{ms:List M}{r:M}{A:Around}{y₁:Y}{t c:Bool}{Q:Value→Shared→Prop}(hf:C.fa key=some f)(ha:apply Φ key io es ms σ₁=some (r,σ'))(hio:∀fn,C.tab key=some fn→fn.io=io)
    (R:Run C k y σ true y₁ σ₁ N)(he:as.map (·.e)=es)(hm:as.map (·.m)=ms)(hA:∀a∈as,ArgOk C y₁ σ₁ N a)(B:BudC A d)(hcc:c=true→io.all (!·)=true)(hq:d5 C k y σ c t r σ' Q):
    codeAny (model C.cl.prog C.cl.w) A (.call (.ref f) ⟨as.map (·.v),[]⟩) (fun res s'=>∃v,res=.ok (.ret v)∧Q v s') y₁.s:=by
  obtain⟨f',hf',H⟩:=nY CO ha hio R he hm hA B fun v y' N' R r=>hq v y' N' (R.mono hcc) (.inl r)
  obtain rfl:=Option.some.inj (hf.symm.trans hf')
  exact H
theorem xD{f:String}{l:List E}{G:Tab}{R:Prop}(h:ev G Φ (.call f l) σ=some (m,σ'))(j:∀ms σ₁,E.calms G.io l=true→evA G Φ l σ=some (ms,σ₁)→apply Φ f (G.io f) l ms σ₁=some (m,σ')→R):R:=
  oI h fun hs h=>oP h fun ms σ₁ h1 h=>j ms σ₁ hs h1 h
theorem xE(FC:Facts C)(CO:bM C Φ d){f:String}{l:List E}(S₁:SA C Φ d l):SE C Φ d (.call f l):=fun{k y σ p m σ' Q} S hB hc he hq=>xD he fun ms σ₁ hcalm h1 ha=>qY hc fun n np es z hg hf hl hcs=>
  (lO CO ha).elim fun fa hfa=>wpAny_Call_NameR (iF FC S hg (FC.fnG f fa hfa hf) (iH FC S₁ (FC.fnK f fa hfa) S hB hcs hcalm h1 fun as y' N R e1 e2 hA=>
    zE CO hfa ha (FC.ioOk f) R e1 e2 hA hB.call (fun h=>rH (C.G.io f)▸(a2_ h).1) hq))
theorem xF{e:E}{n:String}{G:Tab}{R:Prop}(h:ev G Φ (.attr e n) σ=some (m,σ'))(k1:∀m₁ σ₁ c fs key,ev G Φ e σ=some (m₁,σ₁)→m₁.fields?=some (c,fs)→G.prop c n=some key→e.calm G.io=true→apply Φ key [false] [e] [m₁] σ₁=some (m,σ')→m≠.undef→R)
    (k2:∀m₁ c fs x,ev G Φ e σ=some (m₁,σ')→m₁.fields?=some (c,fs)→G.prop c n=none→fs.lookup n=some x→x.def?=some m→R):R:=
  oP h fun m₁ σ₁ h1 h=>oP h fun c fs hfs h=>by
    revert h
    show(match G.prop c n with|some key=>if e.calm G.io then(apply Φ key [false] [e] [m₁] σ₁).bind fun(x,σ)=>x.def?.map fun x=>(x,σ)else none|none=>(fs.lookup n).bind fun x=>x.def?.map fun x=>(x,σ₁))=some (m,σ')→R
    cases hp:G.prop c n with
    |some key=>
      exact fun h=>oI h fun hcal h=>oP h fun z σ₂ ha h=>oM h fun z' hz e'=>by
        obtain⟨rfl,rfl⟩:=Prod.mk.inj e'
        obtain⟨rfl,hne⟩:=uM hz
        exact k1 m₁ σ₁ c fs key h1 hfs hp hcal ha hne
    |none=>
      exact fun h=>oB h fun x hx h=>oM h fun z hz e'=>by
        obtain⟨rfl,rfl⟩:=Prod.mk.inj e'
        exact k2 m₁ c fs x h1 hfs hp hx hz
theorem Be{a:Arg}{P:Arg→Prop}(h:P a):∀b∈[a],P b:=fun b hb=>by rw[List.mem_singleton.mp hb];exact h
theorem xG(FC:Facts C)(CO:bM C Φ d){e:E}{n:String}(S₁:SE C Φ d e):SE C Φ d (.attr e n):=fun{k y σ p m σ' Q} S hB hc he hq=>jt hc fun v z hc0 hc1 hn=>lL hc0 (xF he
  (fun m₁ σ₁ c fs key h1 hfs hp hcal ha hne=>mX S₁ S hB hc1 hcal h1 fun u f y₁ N R ra=>by
    refine ra.rep.fields (R:=fun u'=>u=u'→wpAny _ _ (getAttr u' _ true) Q _ y₁.s) hfs (fun b dd kvs g ho _ _ hu=>?_) rfl
    subst hu
    obtain⟨A',es,j,hcl,g1,g2,_⟩:=ho
    obtain⟨hio,pa,fg,rest,hfa,q1,q2,q3,q4⟩:=FC.prop c A' n key hcl hp
    have I:InstAt y₁.h b (instObj A' dd) A' (some (dictOf es j)):=⟨g1,rfl,rfl,g2⟩
    have hg:=plainGet_of (FC.get c A' hcl (Str.ofString n))
    refine get_bind (kb FC R.st.ht) I hg.1 (findObj_data (by obtain⟨cd,hc,_⟩:=any_some (FC.dict c A' hcl);rw[hc];rfl) q1 q2 q3) hg.2 (wpAny_call (prop_get (s:={ y₁.s with toks:=y₁.s.toks+1 }) (kb FC R.st.ht) q4 ?_))
    have R':=R.still (a4 y₁ (y₁.s.toks+1) [])
    obtain⟨f',hf',H⟩:=nY (A:=k.A.in1) (Q:=fun v s'=>Q v s'∧handedIn v=true) CO ha (fun fn h=>(FC.ioOk key fn h).trans hio) R' rfl rfl (Be (a:=⟨e,.ref b,m₁,f⟩) ⟨ra.rep.stay (a4 y₁ (y₁.s.toks+1) []).stay0,ra.sub,ra.tmp,ra.var⟩) hB.call1 fun v y' N' R r=>⟨hq v y' N' (R.mono fun _=>rfl) (.inl r),iG r hne⟩
    obtain rfl:=Option.some.inj (hfa.symm.trans hf')
    refine codeAny_mono H fun res s' h=>?_
    obtain⟨v,rfl,h1,h2⟩:=h
    show wpAny _ _ (handedOut v) _ _ _
    rw[handedOut_of h2]
    exact wpAny_pure h1)
  fun m₁ c fs x h1 hfs hp hx hz=>S₁ S hB hc1 h1 fun u y₁ N R r=>r.parts.elim fun f r=>uN FC R.st.ht hn r.1 hfs hp hx hz fun w f' t r' hf=>hq.part (N₂:=[]) R r.2 hf (a4 ..) r')
theorem dQ{M:Model}{A:Around}{s:Shared}{o:PySem.Expr}{name:ae}{apos pos:Pos}{args:List PySem.Expr}{env:Env}{Q E₀:Value→Shared→Prop}(hc:a_ o=false)
    (hst:(backTo pos (starEach args env)).any (·.1)=false)(hlen:args.length≤10)(hline:(apos.endLine==pos.line)=true)
    (h:wpAny M A (eval o env) (fun ov s₁=>∀pl,wpAny M A (getMethod ov name pl) (fun fx s₂=>wpAny M A (callWith pos fx.1 fx.2 (backTo pos (starEach args env)) []) Q E₀ s₂) E₀ s₁) E₀ s):
    wpAny M A (eval (.Call (.Attribute o name apos) args [] pos) env) Q E₀ s:=by
  rw[arm_eval_Call,rz hc]
  refine wpAny_bind (wpAny_mono h (fun ov s₁ h₁=>wpAny_bind (wpAny_standAt ?_)) fun _ _ e=>e)
  have hform:methodCallForm (args.length+([]:List Keyword).length) (backTo pos (starEach args env)) (backToKw pos (keywordEach [] env))=true:=by
    unfold methodCallForm
    have h2:(backTo pos (starEach args env)).all (fun x=>!x.1)=true:=by
      rw[List.all_eq_not_any_not];simpa using hst
    rw[h2]
    have h3:(backToKw pos (keywordEach [] env))=[]:=rfl
    rw[h3]
    simp only[List.all_nil,Bool.and_true,Bool.true_and,List.length_nil,List.isEmpty_nil,if_true,Nat.add_zero,decide_eq_true_eq]
    (exact Nat.lt_succ_of_le (by trivial))
  have hpos:methodCallPos true o env apos pos=pure pos:=by unfold methodCallPos;simp[hline]
  unfold methodCall
  rw[hform]
  refine wpAny_bind (wpAny_holding (wpAny_mono (h₁ _) (fun fx s₂ h₂=>?_) fun _ _ x=>x))
  exact wpAny_bind (wpAny_of_eq hpos h₂)
theorem xH{e:E}{c n key:String}{l:List E}{G:Tab}{R:Prop}(h:ev G Φ (.meth e c n key l) σ=some (m,σ'))(j:∀o σ₁ ms σ₂ fs,E.calms G.io (e::l)=true→ev G Φ e σ=some (o,σ₁)→evA G Φ l σ₁=some (ms,σ₂)→o.fields?=some (c,fs)→fs.lookup n=none→apply Φ key (G.io key) (e::l) (o::ms) σ₂=some (m,σ')→R):R:=
  oI h fun hs h=>oP h fun o σ₁ h1 h=>oP h fun ms σ₂ h2 h=>oP h fun c' fs hfs h=>oI h fun hcc h5=>by
    subst hcc
    revert h5
    show(match fs.lookup n with|some _=>none|none=>apply Φ key (G.io key) (e::l) (o::ms) σ₂)=some (m,σ')→R
    cases hn:fs.lookup n with
    |some x=>exact fun h=>ns h
    |none=>exact fun h=>j o σ₁ ms σ₂ fs hs h1 h2 hfs hn h
theorem Bf{io:String→List Bool}{x:Sx}{l:List E}:∀{ps:List PySem.Expr},a0 io x l ps=true→ps.length=l.length:=by
  induction l with
  |nil=>intro ps h;exact iE h rfl
  |cons e r ih=>intro ps h;exact eO h fun p q _ h=>congrArg Nat.succ (ih h)
theorem ArgOk.wide{a:Arg}{N':List Addr}(h:ArgOk C y σ N a)(hN:∀b∈N,b∈N'):ArgOk C y σ N' a:=⟨h.rep,fun b hb=>(h.sub b hb).imp (hN b) id,fun q b hb=>hN b (h.tmp q b hb),h.var⟩
theorem xI(FC:Facts C)(CO:bM C Φ d){e:E}{c n key:String}{l:List E}(S₁:SE C Φ d e)(S₂:SA C Φ d l):SE C Φ d (.meth e c n key l):=fun{k y σ p m σ' Q} S hB hc he hq=>xH he fun o σ₁ ms σ₂ fs hcalm h1 h2 hfs hnl ha=>qZ hc fun op ap es z hc0 hkey hlen hline hc1 hcs=>by
  obtain⟨fa,hfa⟩:=lO CO ha
  refine dQ hc0 (dN hcs) (Bf hcs▸hlen) hline (mX S₁ S hB hc1 (a2_ hcalm).1 h1 fun u f y₁ N R ra pl=>?_)
  refine ra.rep.fields (R:=fun u'=>u=u'→wpAny _ _ (getMethod u' _ pl) _ _ y₁.s) hfs (fun b dd kvs g ho rf _ hu=>?_) rfl
  subst hu
  obtain⟨A',ds,j,hcl,g1,g2,hent⟩:=ho
  have I:InstAt y₁.h b (instObj A' dd) A' (some (dictOf ds j)):=⟨g1,rfl,rfl,g2⟩
  obtain⟨m1,m2⟩:=FC.meth c A' n fa hcl (hkey▸hfa)
  have hg:=plainGet_of (FC.get c A' hcl (Str.ofString n))
  refine method_fn (kb FC R.st.ht) I hg.1 hg.2 m1 (beq_iff_eq.mp m2) (by show(lookIn (Str.ofString n) (dictOf ds j)).map _=_;rw[lookIn_dict,hent.get,rf.none hnl];rfl) ?_
  refine iH (k:=k.on N) (first:=[.ref b]) FC S₂ (FC.fnK _ fa hfa) R.st hB hcs (a2_ hcalm).2 h2 fun as y₂ N' R2 e1 e2 hA=>?_
  exact zE (as:=⟨e,.ref b,o,f⟩::as) CO hfa ha (FC.ioOk _) (R.trans R2) (congrArg _ e1) (congrArg _ e2) (fun a h=>(List.mem_cons.mp h).elim (fun q=>q▸ra.carry R2) fun q=>(hA a q).wide fun b hb=>List.mem_append_left _ hb) hB.call (fun h=>rH (C.G.io key)▸(a3_ h).1) hq
end
end Mine.Internal
end
section
namespace Mine.Internal
open PySem PySem.W PySem.Calls PyProof.Rows
section
variable {C:Cx} {Φ:Phi} {d:Nat} {k:Kx} {y y' y₁:Y} {σ σ' σ₁:List M} {m:M} {N:List Addr} {as:List Arg}
theorem Bg(ha:∀a∈as,ArgOk C y σ N a):(as.map (·.m)).all M.isV=true→as.flatMap (·.f)=[]:=by
  induction as with
  |nil=>intro _;rfl
  |cons a as ih=>
    intro h
    have h:(a.m.isV&&(as.map (·.m)).all M.isV)=true:=h
    obtain⟨x,hx⟩:=j6 (a2_ h).1
    have r:=(ha a (.head _)).rep
    rw[hx]at r
    rw[List.flatMap_cons,r.1,ih (fun a h=>ha a (.tail _ h)) (a2_ h).2]
    rfl
theorem sN{A:Around}{d:Nat}(B:Bud A d){K:Addr}{vs:List Value}:BudC (A.under (.builtin "type.__call__" ⟨.ref K::vs,[]⟩)) d:=by
  obtain⟨h,h1,h2⟩:=B
  have w1:(A.under (.builtin "type.__call__" ⟨.ref K::vs,[]⟩)).depth=A.depth+1:=rfl
  have w2:(A.under (.builtin "type.__call__" ⟨.ref K::vs,[]⟩)).units=A.units+1:=rfl
  exact⟨h,by rw[w1];(exact Nat.le_of_lt (by trivial)),by rw[w2];(exact Nat.lt_succ_of_lt (by trivial))⟩
theorem Dr{r:M}{outs:List M}{R:Prop}(h:(match r,outs with|.v .none,o::_=>some (o,σ)|_,_=>none)=some (m,σ'))(j:∀q,r=.v .none→outs=m::q→σ=σ'→R):R:=by
  cases r with
  |v x=>
    cases x with
    |none=>
      cases outs with
      |nil=>exact ns h
      |cons o q=>cases h;exact j q rfl rfl rfl
    |_=>exact ns h
  |_=>exact ns h
theorem Bh{c key:String}{l:List E}{G:Tab}{R:Prop}(h:ev G Φ (.new c key l) σ=some (m,σ'))(j:∀ms outs,E.calms G.io l=true→evA G Φ l σ=some (ms,σ')→ms.all M.isV=true→mx (G.io key)=true→Φ key (.obj c []::ms)=some (.v .none,m::outs)→R):R:=
  oI h fun hs h=>oP h fun ms σ₁ h1 h=>oI h fun hv h=>oP h fun r outs hΦ h=>Dr h fun q e1 e2 e3=>by
    subst e1 e2 e3
    exact j ms q hs h1 (a2_ hv).1 (a2_ hv).2 hΦ
theorem Bi{io:List Bool}(h:mx io=true):∃r,io=true::r∧r.all (!·)=true:=by
  cases io with
  |nil=>exact absurd h Bool.false_ne_true
  |cons b r=>
    cases b with
    |false=>exact absurd h Bool.false_ne_true
    |true=>exact⟨r,rfl,h⟩
noncomputable def lk(A':Addr)(y:Y):Y:=(y.push emptyDict).push (instObj A' y.h.objs.size)
theorem lP{y:Y}:(y.push emptyDict).h.objs.size=y.h.objs.size+1:=Heap.size_push ..
theorem Bj(FC:Facts C)(CO:bM C Φ d){c key:String}{l:List E}(S₁:SA C Φ d l):SE C Φ d (.new c key l):=fun{k y σ p m σ' Q} S hB hc he hq=>Bh he fun ms outs hcalm h1 hall hini hΦ=>un hc fun n np es z hg hkey hl hcs=>by
  subst hkey
  obtain⟨fn,f,htab,hfa,H⟩:=CO _ _ _ _ hΦ
  obtain⟨A',hcl⟩:=FC.clsOf c f hfa
  obtain⟨c1,c2,c3,c4,c5⟩:=FC.cls c A' f hcl hfa
  rw[←FC.ioOk _ fn htab]at hini
  obtain⟨io,hio,hno⟩:=Bi hini
  refine wpAny_Call_NameR (iF FC S hg c1 (iH FC S₁ c2 S hB hcs hcalm h1 fun as y₁ N R e1 e2 hA=>?_))
  subst e2
  have hfe:=Bg hA hall
  have hX:=kb FC R.st.ht
  refine make_core (makes_of hX c3) (looks_findIn hX c4) (fun self=>bind_fn hX self c5) (.inl rfl) ?_
  have R₂:=(R.drop0.push emptyDict rfl).push (instObj A' y₁.h.objs.size) rfl
  rw[lP]at R₂
  have hd:(lk A' y₁).h.get? y₁.h.objs.size=some emptyDict:=Heap.get?_push_of_some _ (cO y₁ emptyDict rfl)
  have hx:(lk A' y₁).h.get? (y₁.h.objs.size+1)=some (instObj A' y₁.h.objs.size):=lP▸cO (y₁.push emptyDict) (instObj A' y₁.h.objs.size) rfl
  have hN:∀b∈[y₁.h.objs.size+1,y₁.h.objs.size],b∈y.os.flatten∨y.no b:=fun b hb=>R₂.dirt b (.inr hb)
  have hN':∀b∈[y₁.h.objs.size+1,y₁.h.objs.size],y.no b:=fun b hb=>(hN b hb).resolve_left fun q=>nd (List.nodup_append.mp R₂.st.ht.nodup).2.1 ((R₂.calm rfl).2.2▸q) (List.mem_append_left _ hb)
  have mv:Mv y₁ (lk A' y₁) []:=(cn y₁ _).trans0 (cn _ _)
  have HO:HT C (lk A' y₁) ((⟨.none,.ref (y₁.h.objs.size+1),.obj c [],[y₁.h.objs.size+1,y₁.h.objs.size]⟩::as:List Arg).flatMap (·.f)++(k.a.fr++((lk A' y₁).os.flatten++k.X))):=by
    rw[List.flatMap_cons,hfe,List.append_nil]
    exact R₂.st.ht.perm (pm [k.a.fr,(lk A' y₁).os.flatten,[y₁.h.objs.size+1,y₁.h.objs.size],k.X] (.a t0 (.a t1 (.a t2 t3))) (.a t2 (.a t0 (.a t1 t3))) rfl)
  refine codeAny_mono (H (as:=⟨.none,.ref (y₁.h.objs.size+1),.obj c [],[y₁.h.objs.size+1,y₁.h.objs.size]⟩::as) (Q:=fun v s'=>v=.none∧Q (.ref (y₁.h.objs.size+1)) s') (sN hB) rfl
    (fun a ha=>(List.mem_cons.mp ha).elim (fun e=>e▸⟨y₁.h.objs.size+1,y₁.h.objs.size,[],[],rfl,rfl,⟨A',[],0,hcl,hx,hd,rfl⟩,rfl,rfl⟩) fun q=>(hA a q).rep.stay mv.stay0) HO fun v y' fr gs P=>?_) fun res s' h=>by
    obtain⟨v,rfl,rfl,h⟩:=h
    exact⟨rfl,_,rfl,h⟩
  obtain⟨rfl,rv⟩:=P.rep
  refine⟨rv,?_⟩
  have pmv:=P.mv
  have pht:=P.ht
  have pdi:=P.dirt
  rw[List.flatMap_cons,hfe,List.append_nil]at pmv pdi
  obtain⟨g,gs,rfl⟩:=List.exists_cons_of_length_eq_add_one P.len
  have ro:=P.out 0 _ m g (by rw[hio];rfl) rfl rfl rfl
  rw[hio,show iof (true::io) (g::gs)=g++iof io gs from rfl,gS hno,List.append_nil]at pht pdi
  have T:Stay (lk A' y₁) y' (k.a.fr++(lk A' y₁).os.flatten):=pmv.stay (C:=C) ((R₂.st.ht.perm (pm [k.a.fr,(lk A' y₁).os.flatten,[y₁.h.objs.size+1,y₁.h.objs.size],k.X] (.a t0 (.a t1 (.a t2 t3))) (.a (.a t2 (.a t0 t1)) t3) rfl)).sub (List.sublist_append_left _ _))
  have up:Stay y' (y'.va y₁.ρ y₁.os) (k.a.fr++(lk A' y₁).os.flatten):=.up rfl fun _ h=>h
  refine hq _ (y'.va y₁.ρ y₁.os) g ⟨(R₂.mv.trans (pmv.from (y'':=y'.va y₁.ρ y₁.os) rfl rfl) fun b hb=>.inr (hN' b hb)).wide0,⟨(pht.perm (pm [g,k.a.fr,y₁.os.flatten,k.X] (.a t0 (.a t1 (.a t2 t3))) (.a t1 (.a t2 (.a t0 t3))) rfl)).re rfl rfl,R₂.st.vars.stay k.hE (T.trans up) rfl rfl⟩,fun _=>R.calm rfl,R.rho,fun b hb=>hb.elim (fun q=>R.dirt b (.inl q)) fun q=>(pdi b (.inl q)).elim (hN b) R₂.old,R.und⟩ (.inl (ro.stay (.up rfl fun _ h=>h)))
end
end Mine.Internal
end
section
namespace Mine.Internal
open PySem PySem.W PySem.Calls PyProof.Rows
section
variable {prog:Program} {w:World} {A:Around} {E:Value→Shared→Prop} {s:Shared}
theorem lQ{it t:Addr}{items:Array Value}(hne:t≠it):∀(n i:Nat) (s:Shared) (Q:List Value→Shared→Prop),s.heap.IsListIter it t i→s.heap.IsList t items→i+n≤items.size→
    (∀h',h'.IsListIter it t (i+n)→Heap.SameBut it s.heap h'→Q ((items.toList.drop i).take n) { s with heap:=h' })→wpAny (model prog w) A (draw (.ref it) n) Q E s
  |0,i,s,Q,hit,_,_,hQ=>by
    show wpAny _ _ (pure []) Q E s
    exact wpAny_pure (by simpa using hQ s.heap hit (Heap.SameBut.refl ..))
  |n+1,i,s,Q,hit,ht,hle,hQ=>by
    have hlt:i<items.size:=by(exact Nat.lt_of_add_right_lt hle)
    show wpAny _ _ (pyNext (.ref it) >>= _) Q E s
    refine wpAny_bind (wpAny_pyNext_list_item hit ht (x:=items[i]) (by simp[hlt]) fun h₁ hit₁ hs₁=>?_)
    refine wpAny_bind (wpAny_holding (lQ hne n (i+1) _ _ hit₁ (ht.extBut hs₁.extBut hne) (by lia) fun h₂ hit₂ hs₂=>wpAny_pure ?_))
    have hd:items.toList.drop i=items[i]::items.toList.drop (i+1):=by simp[List.drop_eq_getElem_cons,hlt]
    have:=hQ h₂ (by rw[show i+(n+1)=i+1+n by(exact Eq.symm (Nat.succ_add_eq_add_succ i n))];exact hit₂) (hs₁.trans hs₂)
    rw[hd,List.take_succ_cons]at this
    exact this
theorem dR{t:Addr}{items:Array Value}{Q:List Value→Shared→Prop}(hh:A.handled=none)(ht:s.heap.IsList t items)
    (hQ:∀h',Heap.ExtBut s.heap.objs.size s.heap h'→Q items.toList { s with heap:=h' }):wpAny (model prog w) A (PySem.unpackItems (.ref t) items.size none) Q E s:=by
  have hlt:t≠s.heap.objs.size:=by obtain⟨o,ho,_⟩:=ht;exact Nat.ne_of_lt (Heap.lt_size ho)
  unfold PySem.unpackItems
  refine wpAny_bind ?_
  · unfold notIterableAtAll
    refine wpAny_bind (wpAny_specialOf ht.typeIs F.slot_list_iter.lookup ?_)
    refine wpAny_pure ?_
    simp only[Bool.false_eq_true,if_false]
    refine wpAny_bind (wpAny_holding (wpAny_pyIter_list ht ?_))
    refine wpAny_bind (wpAny_holding (lQ hlt items.size 0 _ _ ⟨_,Heap.get?_push_size _ rfl,rfl,rfl⟩ (ht.push _) (by(simp)) fun h₁ hit₁ hs₁=>?_))
    have hall:List.take items.size (List.drop 0 items.toList)=items.toList:=by
      rw[List.drop_zero];exact List.take_of_length_le (by simp)
    rw[hall]
    rw[if_neg (by simp)]
    have ht₁:h₁.IsList t items:=(ht.push _).extBut hs₁.extBut hlt
    refine wpAny_bind (wpAny_holding (wpAny_pyNext_list_end hh hit₁ ht₁ (by simp) fun h₂ he₂=>?_))
    simp only[Option.isSome_none,Bool.false_eq_true,if_false]
    refine wpAny_pure (hQ h₂ fun b o hb e=>he₂ b o hb (hs₁.extBut b o hb (Heap.get?_push_of_some _ e)))
theorem kg{t:Addr}{items:Array Value}{targets:List (Bool×(Value→Sem Unit))}{Q:Unit→Shared→Prop}(hh:A.handled=none)(ht:s.heap.IsTuple t items∨s.heap.IsList t items)
    (hn:targets.length=items.size)(hstar:targets.findIdx? (·.1)=none)
    (h:∀h',(∀b o,s.heap.get? b=some o→h'.get? b=some o)→wpAny (model prog w) A (assignInOrder (targets.map (·.2)) items.toList) Q E { s with heap:=h' }):
    wpAny (model prog w) A (unpack (.ref t) targets) Q E s:=by
  have g:∀h',Heap.ExtBut s.heap.objs.size s.heap h'→wpAny (model prog w) A (assignInOrder (targets.map (·.2)) items.toList) Q E { s with heap:=h' }:=fun h' he=>
    h h' fun b o e=>he b o (Nat.ne_of_lt (Heap.lt_size e)) e
  unfold unpack
  rw[hn,hstar]
  rcases ht with ht|ht
  · exact wpAny_bind (wpAny_holding (wpAny_unpackItems_tuple hh ht g))
  · exact wpAny_bind (wpAny_holding (dR hh ht g))
end
end Mine.Internal
end
section
namespace Mine.Internal
open PySem PySem.W PySem.Calls PyProof.Rows
structure Go (C:Cx) (k:Kx) (y y':Y) (σ':List M) (N:List Addr):Prop where
  mv:Mv y y' (k.a.fr++y.os.flatten)
  st:St C (k.on N) y' σ'
  dirt:∀b,b∈y'.os.flatten∨b∈N→b∈y.os.flatten∨y.no b
section
variable {C:Cx} {k:Kx} {y y₁ y₂ y' y'':Y} {σ σ' σ₁ σ₂:List M} {N N' N₁ N₂ f:List Addr} {s:Shared}
theorem Go.refl(S:St C k y σ):Go C k y y σ []:=⟨.refl ..,S,fun _ h=>h.elim .inl nofun⟩
theorem Run.go{c:Bool}(R:Run C k y σ c y' σ' N):Go C k y y' σ' N:=⟨R.mv.wide fun b hb=>List.mem_append_right _ (iC hb),R.st,R.dirt⟩
theorem Go.old{b:Addr}(R:Go C k y y₁ σ₁ N₁)(h:y₁.no b)(hb:b∉k.a.fr):b∈y.os.flatten∨y.no b:=(R.mv.old h).elim (fun q=>(List.mem_append.mp q).elim (fun q=>absurd q hb) .inl) .inr
theorem Go.trans(R₁:Go C k y y₁ σ₁ N₁)(R₂:Go C (k.on N₁) y₁ y₂ σ₂ N₂):Go C k y y₂ σ₂ (N₂++N₁):=by
  have nfr:∀{b},b∈y₂.os.flatten∨b∈N₂→b∉k.a.fr:=fun hb q=>nd R₂.st.ht.nodup q (hb.elim (List.mem_append_left _) fun w=>List.mem_append_right _ (List.mem_append_left _ w))
  refine⟨R₁.mv.trans R₂.mv fun x hx=>(List.mem_append.mp hx).elim (fun q=>.inl (List.mem_append_left _ q)) fun q=>(R₁.dirt x (.inl q)).imp (List.mem_append_right _) id,⟨R₂.st.ht.perm (pm [k.a.fr,y₂.os.flatten,N₂,N₁,k.X] (.a t0 (.a t1 (.a t2 (.a t3 t4)))) (.a t0 (.a t1 (.a (.a t2 t3) t4))) rfl),R₂.st.vars⟩,fun b hb=>?_⟩
  have two:b∈y₂.os.flatten∨b∈N₂→b∈y.os.flatten∨y.no b:=fun hb=>(R₂.dirt b hb).elim (fun q=>R₁.dirt b (.inl q)) fun q=>R₁.old q (nfr hb)
  exact hb.elim (fun q=>two (.inl q)) fun q=>(List.mem_append.mp q).elim (fun q=>two (.inr q)) fun q=>R₁.dirt b (.inr q)
theorem Go.seq(G:Go C k y y₁ σ₁ [])(G':Go C k y₁ y₂ σ₂ N):Go C k y y₂ σ₂ N:=List.append_nil N▸G.trans (k:=k) G'
theorem Go.then{c:Bool}(G:Go C k y y₁ σ₁ N)(R:Run C (k.on N) y₁ σ₁ c y₂ σ₂ []):Go C k y y₂ σ₂ N:=G.trans R.go
theorem Go.drop(R:Go C k y y' σ' N)(h:N'.Sublist N):Go C k y y' σ' N':=⟨R.mv,R.st.drop h,fun b hb=>R.dirt b (hb.imp id (h.subset ·))⟩
theorem Go.perm(R:Go C k y y' σ' N)(h:N.Perm N'):Go C k y y' σ' N':=⟨R.mv,R.st.perm h,fun b hb=>R.dirt b (hb.imp id (h.mem_iff.mpr ·))⟩
theorem Go.still(R:Go C k y y' σ' N)(m:Mv y' (y'.to s) []):Go C k y (y'.to s) σ' N:=
  ⟨R.mv.trans0 m,R.st.grow (N:=[]) m rfl rfl (fun _ h=>.inl h) .nil nin,R.dirt⟩
theorem Go.freeze(G:Go C k y y' σ' (f++N)):Go C k y (y'.fz f) σ' N:=⟨⟨G.mv.same,G.mv.keep,fun b hb=>.inl (G.mv.fsub b hb)⟩,G.st.freeze,fun b hb=>G.dirt b (hb.imp id (List.mem_append_right _))⟩
noncomputable def Y.st(y:Y)(s:Shared)(i:Nat)(u:Value)(f:List Addr):Y:=⟨s,y.F,y.ρ.set i u,y.os.set i f⟩
theorem xJ{os:List (List Addr)}{i:Nat}{g:List Addr}(h:os[i]?=some g):∀b,b∈(os.set i f).flatten→b∈os.flatten∨b∈f:=fun b hb=>
  (List.mem_append.mp ((dP h).mem_iff.mp hb)).elim .inr fun q=>.inl ((cz h).mem_iff.mpr (List.mem_append_right _ q))
theorem lR{i:Nat}{u:Value}{m:M}{x:String}{s₂:Shared}{D:Addr}(G:Go C k y y₁ σ₁ (f++N))(r:ag C y₁ u m f)(hi:i<σ₁.length)(hx:k.a.vs[i]?=some x)(hpin:∀q∈k.a.pin,q.1≠i)(hD:D∈k.a.fr)(mv:Mv y₁ (y₁.to s₂) [D])(ho:(y₁.to s₂).has D)
    (hns:∃m,s₂.heap.Ns k.a.env.locals m)(hcl:∀y c,k.a.env.cells.lookup y=some c→∃u,s₂.heap.IsCell c u)(hat:k.a.At (y₁.to s₂) i (Str.ofString x) u)(hoth:∀j z u',j≠i→k.a.vs[j]?=some z→k.a.At y₁ j (Str.ofString z) u'→k.a.At (y₁.to s₂) j (Str.ofString z) u'):
    Go C k y (y₁.st s₂ i u f) (σ₁.set i m) N:=by
  have V:Vars C k.a y₁ σ₁:=G.st.vars
  have H:=G.st.ht
  have hd:∀b∈[D],b=D:=fun b hb=>List.mem_singleton.mp hb
  have hio:i<y₁.os.length:=V.lenO▸hi
  have hos:=List.getElem?_eq_getElem hio
  have mv':Mv y₁ (y₁.st s₂ i u f) [D]:=⟨mv.same,mv.keep,mv.fsub⟩
  have T:Stay y₁ (y₁.st s₂ i u f) (y₁.os.flatten++f):=⟨fun b hb=>mv.keep b fun q=>H.nF (List.mem_append_left _ hD) (hd b q▸hb),fun b hb=>mv.keep b fun q=>nd H.nodup hD (hd b q▸(List.mem_append.mp hb).elim (List.mem_append_left _) fun w=>List.mem_append_right _ (List.mem_append_left _ (List.mem_append_left _ w))),fun _ h=>h⟩
  have H2:HT C (y₁.st s₂ i u f) (k.a.fr++(y₁.os.flatten++((f++N)++k.X))):=H.touchL mv' (fun b hb=>hd b hb▸⟨List.mem_append_left _ hD,ho⟩) fun b=>.inl
  refine⟨G.mv.trans mv' fun b hb=>.inl (List.mem_append_left _ (hd b hb▸hD)),⟨(H2.perm ?_).sub (List.sublist_append_right y₁.os[i] _),?_⟩,fun b hb=>hb.elim (fun q=>(xJ hos b q).elim (fun q=>G.dirt b (.inl q)) fun q=>G.dirt b (.inr (List.mem_append_left _ q))) fun q=>G.dirt b (.inr (List.mem_append_right _ q))⟩
  · refine(List.Perm.append_left _ ((cz hos).append_right _)).trans ((pm [k.a.fr,y₁.os[i],(y₁.os.set i []).flatten,f,N,k.X] (.a t0 (.a (.a t1 t2) (.a (.a t3 t4) t5))) (.a t1 (.a t0 (.a (.a t3 t2) (.a t4 t5)))) rfl).trans (.append_left _ (.append_left _ (.append_right _ (dP hos).symm))))
  · refine⟨(List.length_set ..).trans (V.lenR.trans (List.length_set ..).symm),(List.length_set ..).trans (V.lenO.trans (List.length_set ..).symm),V.lenV.trans (List.length_set ..).symm,hns,hcl,fun j m' e hne=>fe e (fun hij em=>?_) fun hij e=>?_,fun j e=>fe e (fun hij em=>?_) fun hij e=>(List.getElem?_set_ne hij).trans (V.und j e),fun q hq=>(List.getElem?_set_ne (Ne.symm (hpin q hq))).trans (V.pin q hq)⟩
    · subst hij em
      exact⟨x,u,f,hx,List.getElem?_set_self (V.lenR▸hi),List.getElem?_set_self hio,hat,r.stay (T.sub fun b hb=>List.mem_append_right _ hb)⟩
    · obtain⟨z,u',g,L⟩:=V.at_ j m' e hne
      exact⟨z,u',g,L.v,(List.getElem?_set_ne hij).trans L.ρ,(List.getElem?_set_ne hij).trans L.o,hoth j z u' (Ne.symm hij) L.v L.at_,L.rep.stay (T.sub fun b hb=>List.mem_append_left _ (bW L.o hb))⟩
    · subst hij em
      exact(List.getElem?_set_self hio).trans (congrArg some r)
theorem c7{i:Nat}{n:ae}{u:Value}{m:M}{Q:Unit→Shared→Prop}{E₀:Value→Shared→Prop}(hv:k.a.sx.isSt i n=true)(G:Go C k y y₁ σ₁ (f++N))(r:ag C y₁ u m f)(hi:i<σ₁.length)
    (h:∀s₂ D,D∈k.a.fr→(k.a.n1≤i→D=k.a.env.locals)→Go C k y (y₁.st s₂ i u f) (σ₁.set i m) N→Mv y₁ (y₁.to s₂) [D]→Q () s₂):wpAny (model C.cl.prog C.cl.w) k.A (storeName k.a.env n u) Q E₀ y₁.s:=by
  obtain⟨hv,hpin⟩:=Sx.isSt_spec hv
  obtain⟨x,hx,rfl,hk⟩:=Sx.isVar_spec hv
  have V:Vars C k.a y₁ σ₁:=G.st.vars
  have hE:=k.hE
  rcases hk with⟨hk,hin⟩|⟨hk,hin⟩
  · -- a cell
    obtain⟨c,hc⟩:=hE.has i x hin hx hk
    obtain⟨v₀,hcell⟩:=V.cell _ c hc
    refine wpAny_storeName_cell hE.kind hk hc hcell fun h' hc' hs=>?_
    have mv:=a7 (t:=y₁.s.toks) hs
    have hcl:∀z c',k.a.env.cells.lookup z=some c'→c'=c∨∀u,y₁.h.IsCell c' u→h'.IsCell c' u:=fun z c' hz=>by
      by_cases e:c'=c
      · exact .inl e
      · exact .inr fun u hu=>hu.sameBut hs e
    refine h _ c (hE.cells _ _ hc) (fun q=>absurd hin (Nat.not_lt.mpr q)) (lR G r hi hx hpin (hE.cells _ _ hc) mv (hc'.elim fun o h=>⟨o,h.1⟩) (V.ns.elim fun m hm=>⟨m,hm.sameBut hs (Ne.symm (hE.off _ _ hc))⟩) (fun z c' hz=>(hcl z c' hz).elim (fun e=>⟨_,e▸hc'⟩) fun w=>(V.cell z c' hz).elim fun u hu=>⟨u,w u hu⟩)
      ⟨fun _ _=>⟨c,hc,hc'⟩,fun q=>nomatch hk.symm.trans q⟩ fun j z u' hj hz q=>⟨fun k l=>?_,fun k l=>?_⟩) mv
    · obtain⟨c',h1,h2⟩:=q.1 k l
      refine⟨c',h1,(hcl _ c' h1).elim (fun e=>?_) fun w=>w _ h2⟩
      subst e
      obtain rfl:=bB (hE.apart _ _ _ h1 hc)
      exact absurd (hE.inj j i z l hin hz hx) hj
    · obtain⟨m,hm,hmx⟩:=q.2 k l
      exact⟨m,hm.sameBut hs (Ne.symm (hE.off _ _ hc)),hmx⟩
  · -- a local
    obtain⟨mm,hm⟩:=V.ns
    refine wpAny_storeName_local hk hm (fun h' hn' hs=>?_) (by rw[hE.kind];rfl)
    have mv:=a7 (t:=y₁.s.toks+1) hs
    refine h _ k.a.env.locals hE.locals (fun _=>rfl) (lR G r hi hx hpin hE.locals mv (by obtain⟨o,es,ep,ho,_⟩:=hn';exact⟨o,ho⟩) ⟨_,hn'⟩ (fun z c' hz=>(V.cell z c' hz).elim fun u hu=>⟨u,hu.sameBut hs (hE.off _ _ hz)⟩)
      ⟨fun q=>(nomatch hk.symm.trans q),fun _ _=>⟨_,hn',if_pos rfl⟩⟩ fun j z u' hj hz q=>⟨fun k l=>?_,fun kd l=>?_⟩) mv
    · obtain⟨c',h1,h2⟩:=q.1 k l
      exact⟨c',h1,h2.sameBut hs (hE.off _ _ h1)⟩
    · obtain⟨m,hm2,hmx⟩:=q.2 kd l
      refine⟨_,hn',(if_neg fun e=>?_).trans ?_⟩
      · obtain rfl:=bB e
        refine hj ?_
        unfold Act.reads at hin l
        cases hcs:k.a.cs with
        |none=>
          rw[hcs]at hin l
          exact hE.inj j i z l hin hz hx
        |some p=>
          rw[hcs]at hin l
          exact hE.injc p.1 p.2 hcs j i z l.1 l.2 hin.1 hin.2 hz hx
      · obtain⟨o,es,ep,ho,hd,hs1,hf⟩:=hm
        obtain⟨o2,es2,ep2,ho2,hd2,hs2,hf2⟩:=hm2
        rw[ho]at ho2;cases ho2
        rw[hd]at hd2;cases hd2
        rw[←hf,hf2];exact hmx
end
end Mine.Internal
end
section
namespace Mine.Internal
open PySem PySem.W PySem.Calls PyProof.Rows
structure Fed (y y':Y) (wr:List Addr):Prop where
  mv:Mv y y' wr
  live:∀b∈wr,y'.has b
  new:∀b,y'.F b→y.F b∨(y.no b∧y'.has b)
  ρ:y'.ρ=y.ρ
  os:y'.os=y.os
structure Feed (C:Cx) (A:Around) (tgt:PySem.Expr) (it:Value) (wr fp:List Addr) (xs:List M) (I:Nat→Y→List Addr→Prop):Prop where
  frame:∀{i:Nat} {y y':Y} {fs:List Addr},I i y fs→(∀b∈fp,Kp y y' b)→Stay y y' fs→I i y' fs
  item:∀{i:Nat} {x:M} {y:Y} {fs:List Addr} {Q E:Value→Shared→Prop},xs[i]?=some x→I i y fs→(∀b∈wr,¬y.F b∧b∉fs)→(∀v y' f1 f2,fs=f1++f2→Fed y y' wr→ag C y' v x f1→I (i+1) y' f2→Q v y'.s)→
    wpAny (model C.cl.prog C.cl.w) A (pyNext it) (fun r s₁=>∃v,r=some v∧wpAny (model C.cl.prog C.cl.w) A (letOwnedTupleGo tgt it v) (fun _ s₂=>Q v s₂) E s₁) E y.s
  done:∀{y:Y} {fs:List Addr} {Q:Option Value→Shared→Prop} {E:Value→Shared→Prop},I xs.length y fs→(∀s',Mv y (y.to s') wr→Q none s')→wpAny (model C.cl.prog C.cl.w) A (pyNext it) Q E y.s
  self:∀{i:Nat} {y:Y} {fs:List Addr} {Q E:Value→Shared→Prop},I i y fs→Q it y.s→wpAny (model C.cl.prog C.cl.w) A (pyIter it) Q E y.s
section
variable {C:Cx} {A:Around} {y y':Y} {i:Nat} {fs wr:List Addr}
theorem lS{h':Heap}{t:Nat}(hk:∀b,b∉wr→∀o,y.h.get? b=some o→h'.get? b=some o):Mv y (y.to { y.s with heap:=h',toks:=t }) wr:=⟨⟨h',t,rfl⟩,hk,fun _ h=>h⟩
theorem Fed.mk0{s:Shared}(mv:Mv y (y.to s) wr)(hl:∀b∈wr,(y.to s).has b):Fed y (y.to s) wr:=⟨mv,hl,fun _=>.inl,rfl,rfl⟩
theorem Fed.stay(h:Fed y y' wr)(hw:∀b∈wr,¬y.F b∧b∉fs):Stay y y' fs:=⟨fun b hf=>h.mv.keep b fun q=>(hw b q).1 hf,fun b hf=>h.mv.keep b fun q=>(hw b q).2 hf,h.mv.fsub⟩
theorem c8{h:Heap}{it la i:Nat}(x:h.IsListIter it la i):∃o,h.get? it=some o:=x.elim fun o h=>⟨o,h.1⟩
theorem Fed.tup{h':Heap}{t:Nat}{us:List Value}{l:List V}{v:Value}(mv:Mv y (y.to { y.s with heap:=h',toks:=t }) wr)(hl:∀b∈wr,(y.to { y.s with heap:=h',toks:=t }).has b)(hT:h'.get? y.h.objs.size=some (sH us))(hv:v=.ref y.h.objs.size)(hz:l.length≤big)
    (hr:al C ((y.to { y.s with heap:=h',toks:=t }).fz [y.h.objs.size]) us l):Fed y ((y.to { y.s with heap:=h',toks:=t }).fz [y.h.objs.size]) wr∧ag C ((y.to { y.s with heap:=h',toks:=t }).fz [y.h.objs.size]) v (.v (.tup l)) []:=
  ⟨⟨⟨mv.same,mv.keep,fun _=>.inl⟩,hl,fun b hb=>hb.imp id fun q=>(by rw[List.mem_singleton.mp q];exact⟨d6 y,_,hT⟩),rfl,rfl⟩,rfl,_,us.toArray,hv,.inr (.head _),⟨_,hT,rfl,0,rfl⟩,hz,hr⟩
noncomputable def Ds(C:Cx)(it la:Addr)(items:Array Value)(xs:List M)(i:Nat)(y:Y)(fs:List Addr):Prop:=y.h.IsListIter it la i∧y.h.IsList la items∧aw C y (items.toList.drop i) (xs.drop i) fs∧items.size=xs.length
theorem fh{α:Type}{l:List α}{i:Nat}{x:α}(h:l[i]?=some x):l.drop i=x::l.drop (i+1):=by
  have hi:=bL h
  rw[List.drop_eq_getElem_cons hi]
  rw[List.getElem?_eq_getElem hi]at h
  rw[Option.some.inj h]
theorem uX{α:Type}{l r:List α}{i:Nat}{x:α}(h:l.drop i=x::r):l[i]?=some x∧l.drop (i+1)=r:=by
  have e:(l.drop i)[0]?=some x:=by rw[h];rfl
  rw[List.getElem?_drop]at e
  exact⟨e,(List.cons.inj ((fh e).symm.trans h)).2⟩
theorem lT{tgt:PySem.Expr}(hh:A.handled=none)(ht:(∃n p,tgt=.Name n p)∨∃es k p,tgt=.Tuple es k p)(it la:Addr)(hne:la≠it)(items:Array Value)(xs:List M):Feed C A tgt (.ref it) [it] [it,la] xs (Ds C it la items xs) where
  frame h hk T:=⟨h.1.at (hk it (.head _)),h.2.1.at (hk la (.tail _ (.head _))),h.2.2.1.stay T,h.2.2.2⟩
  item {i x y fs Q E₀} hx h hw hQ:=by
    obtain⟨h1,h2,h3,h4⟩:=h
    rw[fh hx]at h3
    obtain⟨u,ws,f1,f2,e1,e2,r1,r2⟩:=h3
    obtain⟨hi,hd⟩:=uX e1
    refine wpAny_pyNext_list_item h1 h2 (Array.getElem?_toList.symm.trans hi) fun h' hit' hs=>⟨u,rfl,?_⟩
    have mv:Mv y (y.to { y.s with heap:=h' }) [it]:=a7 (t:=y.s.toks) hs
    have fd:=Fed.mk0 mv fun b hb=>List.mem_singleton.mp hb▸c8 hit'
    have T:=fd.stay hw
    have fin:Q u { y.s with heap:=h' }:=hQ u (y.to { y.s with heap:=h' }) f1 f2 e2 fd (r1.stay (T.sub fun b hb=>e2▸List.mem_append_left _ hb)) ⟨hit',h2.extBut hs.extBut hne,hd.symm▸r2.stay (T.sub fun b hb=>e2▸List.mem_append_right _ hb),h4⟩
    rcases ht with⟨n,p,rfl⟩|⟨es,k,p,rfl⟩
    · exact wpAny_pure fin
    · cases u<;>first|exact wpAny_pure fin|exact wpAny_letOwnedTupleGo_listiter hit' fin
  done {y fs Q E₀} h hQ:=wpAny_pyNext_list_end hh h.1 h.2.1 (Array.getElem?_eq_none (Nat.le_of_eq h.2.2.2)) fun h' he=>hQ _ (lS (t:=y.s.toks) fun b hb o e=>he b o (fun q=>hb (q▸.head _)) e)
  self h hQ:=wpAny_pyIter_listiter h.1 hQ
theorem pO{a b:Int}{i:Nat}{x:M}(h:((bt a b).map M.v)[i]?=some x):i<(b-a).toNat∧x=.v (.int (a+i)):=by
  have hl:=bL h
  rw[List.length_map,bt,List.length_map,List.length_range]at hl
  rw[List.getElem?_map,bt,List.getElem?_map,List.getElem?_range hl]at h
  exact⟨hl,(Option.some.inj h).symm⟩
theorem pP{a b:Int}:((bt a b).map M.v).length=(b-a).toNat:=by rw[List.length_map,bt,List.length_map,List.length_range]
noncomputable def Bk(it:Addr)(a b:Int)(i:Nat)(y:Y)(fs:List Addr):Prop:=fs=[]∧IsRangeIter y.h it (a+i) ((b-a).toNat-i) 1
theorem pQ{n:ae}{p:Pos}(hh:A.handled=none)(it:Addr)(a b:Int):Feed C A (.Name n p) (.ref it) [it] [it] ((bt a b).map .v) (Bk it a b) where
  frame h hk T:=⟨h.1,hk it (.head _) _ h.2⟩
  item {i x y fs Q E₀} hx h hw hQ:=by
    obtain⟨hi,rfl⟩:=pO hx
    refine wpAny_pyNext_range_item h.2 (by clear hQ hw hx;omega) fun h' hit' hs=>⟨_,rfl,wpAny_pure ?_⟩
    refine hQ _ (y.to { y.s with heap:=h',toks:=y.s.toks+1 }) [] [] h.1 (Fed.mk0 (a7 hs) fun b hb=>List.mem_singleton.mp hb▸⟨_,hit'⟩) ⟨rfl,_,rfl⟩ ⟨rfl,?_⟩
    have e1:a+((i+1:Nat):Int)=a+i+1:=by clear hQ hw hx hs hit';lia
    have e2:((b-a).toNat:Int)-((i+1:Nat):Int)=(b-a).toNat-i-1:=by clear hQ hw hx hs hit';omega
    rw[e1,e2];exact hit'
  done {y fs Q E₀} h hQ:=by
    have h2:=h.2
    rw[pP]at h2
    exact wpAny_pyNext_range_end hh h2 (Int.le_of_eq (Int.sub_self _)) fun h' he=>hQ _ (lS (t:=y.s.toks) fun b hb o e=>he b o (fun q=>hb (q▸.head _)) e)
  self h hQ:=wpAny_pyIter_rangeiter h.2 hQ
theorem sO{l:List V}:∀{n i:Nat} {x:V},(bS n l)[i]?=some x→∃y,l[i]?=some y∧x=.tup [.int ((n+i:Nat):Int),y]:=by
  induction l with
  |nil=>intro n i x h;exact ns h
  |cons y r ih=>
    intro n i x h
    cases i with
    |zero=>exact⟨y,rfl,(Option.some.inj h).symm⟩
    |succ i=>
      obtain⟨z,h1,h2⟩:=ih (n:=n+1) h
      exact⟨z,h1,by rw[h2,Nat.add_right_comm];rfl⟩
theorem sP{l:List V}:∀{n:Nat},(bS n l).length=l.length:=by
  induction l with
  |nil=>intro n;rfl
  |cons y r ih=>intro n;exact congrArg Nat.succ ih
theorem al.at_{l:List V}:∀{us:List Value} {i:Nat} {x:V},al C y us l→l[i]?=some x→∃u,us[i]?=some u∧aV C y u x:=by
  induction l with
  |nil=>intro us i x _ e;exact ns e
  |cons z r ih=>
    intro us i x q e
    refine q.cons_e (R:=fun us=>∃u,us[i]?=some u∧aV C y u x) fun u ws h1 h2=>?_
    cases i with
    |zero=>exact⟨u,rfl,Option.some.inj e▸h1⟩
    |succ i=>exact ih (us:=ws) h2 e
theorem kh{vs:Array Value}{l:List V}(r:al C y vs.toList l){n:Nat}(h:l.length≤n):vs[n]?=none:=Array.getElem?_eq_none (r.size.symm▸h)
noncomputable def zF(C:Cx)(e it la:Addr)(items:Array Value)(l:List V)(i:Nat)(y:Y)(fs:List Addr):Prop:=fs=[]∧(∃old,IsEnum y.h e it i old)∧y.h.IsListIter it la i∧y.h.IsList la items∧al C y items.toList l
theorem rI:2≤big:=by decide
theorem sQ{es:List PySem.Expr}{k}{p:Pos}(hh:A.handled=none)(e it la:Addr)(hei:e≠it)(hle:la≠e)(hli:la≠it)(items:Array Value)(l:List V):Feed C A (.Tuple es k p) (.ref e) [e,it] [e,it,la] ((bS 0 l).map .v) (zF C e it la items l) where
  frame h hk T:=⟨h.1,h.2.1.imp fun old h=>hk e (.head _) _ h,h.2.2.1.at (hk it (.tail _ (.head _))),h.2.2.2.1.at (hk la (.tail _ (.tail _ (.head _)))),h.2.2.2.2.stay T.nil⟩
  item {i x y fs Q E₀} hx h hw hQ:=by
    obtain⟨h1,⟨old,h2⟩,h3,h4,h5⟩:=h
    rw[List.getElem?_map,Option.map_eq_some_iff]at hx
    obtain⟨x,hx,rfl⟩:=hx
    obtain⟨z,hy,rfl⟩:=sO hx
    obtain⟨u,hu,ru⟩:=h5.at_ hy
    refine wpAny_pyNext_enum_item h2 h3 h4 (Array.getElem?_toList.symm.trans hu) hei fun h₁ ho hit hT hsz hk=>⟨_,rfl,?_⟩
    refine wpAny_letOwnedTupleGo_enum ho fun h' he hs=>?_
    have hTe:y.h.objs.size≠e:=Nat.ne_of_gt (Heap.lt_size h2)
    have mv:Mv y (y.to { y.s with heap:=h',toks:=y.s.toks+1 }) [e,it]:=lS fun b hb o q=>(hs.2 b fun q=>hb (q▸.head _)).trans (hk b o (fun q=>hb (q▸.head _)) (fun q=>hb (q▸.tail _ (.head _))) q)
    have T:Stay y ((y.to { y.s with heap:=h',toks:=y.s.toks+1 }).fz [y.h.objs.size]) []:=⟨fun b hf=>mv.keep b fun q=>(hw b q).1 hf,nin,fun _=>.inl⟩
    have hit':h'.IsListIter it la (i+1):=hit.at fun o q=>(hs.2 it (Ne.symm hei)).trans q
    obtain⟨fd,r⟩:=Fed.tup (C:=C) (us:=[.int i y.s.toks,u]) (l:=[.int ((0+i:Nat):Int),z]) mv (fun b hb=>(List.mem_cons.mp hb).elim (fun q=>q▸⟨_,he⟩) fun q=>List.mem_singleton.mp q▸c8 hit') ((hs.2 _ hTe).trans hT) rfl rI
      ⟨_,[u],rfl,⟨y.s.toks,by rw[Nat.zero_add]⟩,⟨u,[],rfl,ru.stay T,rfl⟩⟩
    exact hQ _ _ [] [] h1 fd r ⟨rfl,⟨_,he⟩,hit',h4.at (mv.keep la fun q=>(List.mem_cons.mp q).elim hle fun q=>hli (List.mem_singleton.mp q)),h5.stay T⟩
  done {y fs Q E₀} h hQ:=by
    obtain⟨h1,⟨old,h2⟩,h3,h4,h5⟩:=h
    rw[List.length_map,sP]at h2 h3
    exact wpAny_pyNext_enum_end hh h2 h3 h4 (kh h5 (Nat.le_refl _)) fun h' he=>hQ _ (lS (t:=y.s.toks) fun b hb o q=>he b o (fun q=>hb (q▸.tail _ (.head _))) q)
  self h hQ:=h.2.1.elim fun old h=>wpAny_pyIter_enum h hQ
theorem uY{l:List V}:∀{r:List V} {i:Nat} {x:V},(iz l r)[i]?=some x→∃y z,l[i]?=some y∧r[i]?=some z∧x=.tup [y,z]:=by
  induction l with
  |nil=>intro r i x h;exact ns h
  |cons y l ih=>
    intro r i x h
    cases r with
    |nil=>exact ns h
    |cons z r=>
      cases i with
      |zero=>exact⟨y,z,rfl,rfl,(Option.some.inj h).symm⟩
      |succ i=>exact ih h
theorem uZ{l:List V}:∀{r:List V},(iz l r).length=min l.length r.length:=by
  induction l with
  |nil=>intro r;exact(Nat.zero_min _).symm
  |cons y l ih=>
    intro r
    cases r with
    |nil=>exact(Nat.min_zero _).symm
    |cons z r=>exact(congrArg Nat.succ ih).trans (Nat.succ_min_succ ..).symm
structure ZipI (C:Cx) (z TI TO i1 i2 l1 l2:Addr) (xs ys:Array Value) (l r:List V) (i:Nat) (y:Y) (fs:List Addr):Prop where
  f:fs=[]
  z:IsZip y.h z TI TO .none
  p:IsPair y.h TI (.ref i1) (.ref i2)
  q:∃a b,IsPair y.h TO a b
  a:y.h.IsListIter i1 l1 i
  b:y.h.IsListIter i2 l2 i
  la:y.h.IsList l1 xs
  lb:y.h.IsList l2 ys
  ra:al C y xs.toList l
  rb:al C y ys.toList r
theorem m4{P:Addr→Prop}{a b c d:Addr}(h1:P a)(h2:P b)(h3:P c)(h4:P d):∀x∈[a,b,c,d],P x:=fun x hx=>
  (List.mem_cons.mp hx).elim (fun e=>e▸h1) fun hx=>(List.mem_cons.mp hx).elim (fun e=>e▸h2) fun hx=>(List.mem_cons.mp hx).elim (fun e=>e▸h3) fun hx=>List.mem_singleton.mp hx▸h4
theorem n4{x a b c d:Addr}(h1:x≠a)(h2:x≠b)(h3:x≠c)(h4:x≠d):x∉[a,b,c,d]:=fun q=>m4 (P:=fun z=>x≠z) h1 h2 h3 h4 x q rfl
theorem u0{es:List PySem.Expr}{k}{p:Pos}(hh:A.handled=none)(z TI TO i1 i2 l1 l2:Addr)(D:ZipApart z TI TO i1 i2 l1 l2)(xs ys:Array Value)(l r:List V):
    Feed C A (.Tuple es k p) (.ref z) [z,TO,i1,i2] [z,TI,TO,i1,i2,l1,l2] ((iz l r).map .v) (ZipI C z TI TO i1 i2 l1 l2 xs ys l r) where
  frame h hk T:=⟨h.f,hk z (by simp) _ h.z,hk TI (by simp) _ h.p,h.q.imp fun a h=>h.imp fun b h=>hk TO (by simp) _ h,h.a.at (hk i1 (by simp)),h.b.at (hk i2 (by simp)),h.la.at (hk l1 (by simp)),h.lb.at (hk l2 (by simp)),h.ra.stay T.nil,h.rb.stay T.nil⟩
  item {i x y fs Q E₀} hx h hw hQ:=by
    obtain⟨h1,h2,h3,⟨a,b,h4⟩,h5,h6,h7,h8,h9,h10⟩:=h
    rw[List.getElem?_map,Option.map_eq_some_iff]at hx
    obtain⟨x,hx,rfl⟩:=hx
    obtain⟨v1,v2,hy,hy',rfl⟩:=uY hx
    obtain⟨u,hu,ru⟩:=h9.at_ hy
    obtain⟨u',hu',ru'⟩:=h10.at_ hy'
    refine wpAny_pyNext_zip_item D h2 h3 h4 h5 h6 h7 h8 (Array.getElem?_toList.symm.trans hu) (Array.getElem?_toList.symm.trans hu') fun h₁ g1 g2 g3 g4 g5 hsz hk=>⟨_,rfl,?_⟩
    refine wpAny_letOwnedTupleGo_zip g1 fun h' hz hs=>?_
    have hTz:y.h.objs.size≠z:=Nat.ne_of_gt (Heap.lt_size h2)
    have mv:Mv y (y.to { y.s with heap:=h',toks:=y.s.toks }) [z,TO,i1,i2]:=lS fun b hb o q=>
      (hs.2 b fun q=>hb (q▸.head _)).trans (hk b o (fun q=>hb (q▸.head _)) (fun q=>hb (q▸.tail _ (.head _))) (fun q=>hb (q▸.tail _ (.tail _ (.head _)))) (fun q=>hb (q▸.tail _ (.tail _ (.tail _ (.head _))))) q)
    have T:Stay y ((y.to { y.s with heap:=h',toks:=y.s.toks }).fz [y.h.objs.size]) []:=⟨fun b hf=>mv.keep b fun q=>(hw b q).1 hf,nin,fun _=>.inl⟩
    have g2':IsPair h' TO u u':=(hs.2 TO D.TOz).trans g2
    have g3':h'.IsListIter i1 l1 (i+1):=g3.at fun o q=>(hs.2 i1 D.i1z).trans q
    have g4':h'.IsListIter i2 l2 (i+1):=g4.at fun o q=>(hs.2 i2 D.i2z).trans q
    obtain⟨fd,r⟩:=Fed.tup (C:=C) (us:=[u,u']) (l:=[v1,v2]) mv (m4 ⟨_,hz⟩ ⟨_,g2'⟩ (c8 g3') (c8 g4')) ((hs.2 _ hTz).trans g5) rfl rI ⟨_,[u'],rfl,ru.stay T,⟨u',[],rfl,ru'.stay T,rfl⟩⟩
    exact hQ _ _ [] [] h1 fd r ⟨rfl,hz,mv.keep TI (n4 D.TIz D.TITO D.TIi1 D.TIi2) _ h3,⟨u,u',g2'⟩,g3',g4',h7.at (mv.keep l1 (n4 D.l1z D.l1TO D.l1i1 D.l1i2)),h8.at (mv.keep l2 (n4 D.l2z D.l2TO D.l2i1 D.l2i2)),h9.stay T,h10.stay T⟩
  done {y fs Q E₀} h hQ:=by
    obtain⟨h1,h2,h3,⟨a,b,h4⟩,h5,h6,h7,h8,h9,h10⟩:=h
    rw[List.length_map,uZ]at h5 h6
    refine wpAny_pyNext_zip_end hh D h2 h3 h4 h5 h6 h7 h8 ?_ fun h' hk=>hQ _ (lS (t:=y.s.toks) fun b hb o q=>hk b o (fun q=>hb (q▸.head _)) (fun q=>hb (q▸.tail _ (.head _))) (fun q=>hb (q▸.tail _ (.tail _ (.head _)))) (fun q=>hb (q▸.tail _ (.tail _ (.tail _ (.head _))))) q)
    exact(Nat.le_total l.length r.length).imp (fun q=>kh h9 (Nat.min_eq_left q▸Nat.le_refl _)) fun q=>kh h10 (Nat.min_eq_right q▸Nat.le_refl _)
  self h hQ:=wpAny_pyIter_zip h.z hQ
end
end Mine.Internal
end
section
namespace Mine.Internal
open PySem PySem.W PySem.Calls PyProof.Rows
noncomputable def zG:Src→PySem.Expr→Prop
  |.rng _ _,t=>∃n p,t=.Name n p
  |.enum _,t=>∃es k p,t=.Tuple es k p
  |.zip _ _,t=>∃es k p,t=.Tuple es k p
  |.it _,t=>(∃n p,t=.Name n p)∨∃es k p,t=.Tuple es k p
noncomputable def nZ(y:Y)(steady:Bool)(N:List Addr)(b:Addr):Prop:=y.F b∨b∈N∨(steady=false∧b∈y.os.flatten)
noncomputable def n5(C:Cx)(k:Kx)(y:Y)(σ:List M)(c:Bool)(tgt:PySem.Expr)(steady:Bool)(xs:List M)(σ':List M)(Q:Value→Shared→Prop):Prop:=
  ∀it y' wr fs rest fp I,Run C k y σ c y' σ' (wr++(fs++rest))→Feed C k.A tgt it wr fp xs I→I 0 y' fs→(∀b∈fp,b∈wr∨nZ y' steady rest b)→Q it y'.s
noncomputable def SI(C:Cx)(Φ:Phi)(d:Nat)(src:Src):Prop:=∀{k:Kx} {y:Y} {σ:List M} {p tgt:PySem.Expr} {steady:Bool} {xs:List M} {σ':List M} {Q:Value→Shared→Prop},
  St C k y σ→Bud k.A d→dw C.G.io k.a.sx src p=true→zG src tgt→evS C.G Φ steady src σ=some (xs,σ')→n5 C k y σ (src.calm C.G.io) tgt steady xs σ' Q→W C k (eval p k.a.env) (fun v s₁=>W C k (pyIter v) Q s₁) y.s
section
variable {C:Cx} {Φ:Phi} {d:Nat} {k:Kx} {y y':Y} {σ σ' σ₁:List M} {m:M} {N:List Addr} {t steady:Bool}
theorem Val.where_{l:List V}{u:Value}{R:Value→Prop}(r:Val C y t u m N)(e:m.list?=some l)(hst:(!steady||(t||m.isV))=true)(j:∀a vs,y.h.PlainList a vs→l.length≤big→al C y vs.toList l→nZ y steady N a→R (.ref a)):R u:=by
  rcases r with r|⟨ht,rfl,f,hf,r⟩
  · exact r.plain e fun a vs h1 h2 h3 h4=>j a vs h1 h2 h3 (h4.imp id .inl)
  · refine r.plain e fun a vs h1 h2 h3 h4=>j a vs h1 h2 h3 (h4.imp id fun q=>.inr ⟨?_,hf a q⟩)
    cases steady with
    |false=>rfl
    |true=>
      rw[ht]at hst
      obtain⟨x,rfl⟩:=j6 (show m.isV=true from hst)
      rw[r.1]at q
      exact absurd q List.not_mem_nil
noncomputable def itO(la:Addr):Obj:={ cls:=.type "list_iterator",data:=.fields #[.ref la,.int 0 0] }
theorem u1(y:Y)(la:Addr):(y.push (itO la)).h.IsListIter y.h.objs.size la 0:=⟨_,cO y (itO la) rfl,rfl,rfl⟩
theorem gU{h:Heap}{a:Addr}{vs:Array Value}(x:h.IsList a vs):a<h.objs.size:=x.elim fun o h=>Heap.lt_size h.1
theorem lU{P:Addr→Prop}{a b:Addr}(h1:P a)(h2:P b):∀x∈[a,b],P x:=fun x hx=>(List.mem_cons.mp hx).elim (fun e=>e▸h1) fun hx=>List.mem_singleton.mp hx▸h2
@[elab_as_elim] theorem Dt{P:Addr→Prop}{a b x:Addr}(h1:P a)(h2:P b)(hx:x∈[a,b]):P x:=lU h1 h2 x hx
@[elab_as_elim] theorem EN{P:Addr→Prop}{a b c d x:Addr}(h1:P a)(h2:P b)(h3:P c)(h4:P d)(hx:x∈[a,b,c,d]):P x:=m4 h1 h2 h3 h4 x hx
theorem Bl{e:E}{G:Tab}{xs:List M}{R:List M→Prop}(h:evS G Φ steady (.it e) σ=some (xs,σ'))(k1:∀l,e.temp=true→ev G Φ e σ=some (.lstM l,σ')→R l)(k2:∀m l,ev G Φ e σ=some (m,σ')→(!steady||(e.temp||m.isV))=true→m.list?=some l→R (l.map .v)):R xs:=
  oP h fun m σ₁ h1 h=>by
    have gen:(if(!steady||e.temp||m.isV)=true then m.list?.map fun l=>(l.map M.v,σ₁)else none)=some (xs,σ')→R xs:=fun h=>oI h fun hs h=>oM h fun l hl e=>by
      obtain⟨rfl,rfl⟩:=Prod.mk.inj e
      exact k2 m l h1 (Bool.or_assoc ..▸hs) hl
    cases m with
    |lstM l=>
      exact oI (c:=e.temp=true) h fun hs h=>by
        obtain⟨rfl,rfl⟩:=Prod.mk.inj (Option.some.inj h)
        exact k1 l hs h1
    |_=>exact gen h
theorem zH{e:E}(S₁:SE C Φ d e):SI C Φ d (.it e):=fun{k y σ p tgt steady xs σ' Q} S hB hc ht he=>by
  refine Bl (R:=fun xs=>n5 C k y σ _ tgt steady xs σ' Q→_) he (fun l hs h1 hq=>?_) fun m l h1 hs hl hq=>?_
  · refine S₁ S hB hc h1 fun v y' N R r=>?_
    have r:=r.own (e:=e) (Bool.or_eq_true_iff.mpr (.inl hs))
    obtain⟨la,vs,f,rfl,rfl,hL,hz,rm⟩:=r
    have hl:=aQ hL
    exact wpAny_pyIter_list hl (hq _ (y'.push (itO la)) [y'.h.objs.size] f [la] _ _ ((R.push (itO la) rfl).perm (.cons _ (List.perm_append_comm (l₁:=[la])))) (lT hB.handled ht _ la (Nat.ne_of_lt (gU hl)) vs l) ⟨u1 y' la,hl.push _,rm.stay (cn y' (itO la)).stay0,rm.size⟩ (lU (.inl (.head _)) (.inr (.inr (.inl (.head _))))))
  · refine S₁ S hB hc h1 fun v y' N R r=>r.where_ (R:=fun v=>W C k (pyIter v) Q y'.s) hl hs fun la vs hL hz rv hw=>?_
    have hl:=aQ hL
    exact wpAny_pyIter_list hl (hq _ (y'.push (itO la)) [y'.h.objs.size] [] N _ _ (R.push (itO la) rfl) (lT hB.handled ht _ la (Nat.ne_of_lt (gU hl)) vs (l.map .v)) ⟨u1 y' la,hl.push _,(rv.stay (cn y' (itO la)).stay0).toM,rv.size.trans lK.symm⟩ (lU (.inl (.head _)) (.inr hw)))
theorem call1{A:Around}{s:Shared}{n:ae}{np pos:Pos}{p:PySem.Expr}{env:Env}{T:String}{Q E₀:Value→Shared→Prop}{io:String→List Bool}{x:Sx}{e:E}{M₀:Model}(hc:af io x e p=true)
    (hl:wpAny M₀ A (eval (.Name n np) env) (fun v s'=>v=.type T∧wpAny M₀ A (eval p env) (fun v s₂=>wpAny M₀ A (call (.type T) [v]) Q E₀ s₂) E₀ s') E₀ s):wpAny M₀ A (eval (.Call (.Name n np) [p] [] pos) env) Q E₀ s:=by
  refine mY (f:=.type T) (l:=[e]) (io:=io) (x:=x) (.inr ⟨_,rfl⟩) (List.cons_ne_nil _ _) (Bool.and_eq_true_iff.mpr ⟨hc,rfl⟩) (wpAny_mono hl (fun v s' h=>⟨h.1,?_⟩) fun _ _ x=>x)
  rw[aH (bw hc)]
  exact bX (wpAny_mono h.2 (fun v s₂ h=>wpAny_pure h) fun _ _ x=>x)
theorem zI{A:Around}{s:Shared}{n:ae}{np pos:Pos}{p q:PySem.Expr}{env:Env}{T:String}{Q E₀:Value→Shared→Prop}{io:String→List Bool}{x:Sx}{e e':E}{M₀:Model}(hc:af io x e p=true)(hc':af io x e' q=true)
    (hl:wpAny M₀ A (eval (.Name n np) env) (fun v s'=>v=.type T∧wpAny M₀ A (eval p env) (fun v s₂=>wpAny M₀ A (eval q env) (fun v' s₃=>wpAny M₀ A (call (.type T) [v,v']) Q E₀ s₃) E₀ s₂) E₀ s') E₀ s):
    wpAny M₀ A (eval (.Call (.Name n np) [p,q] [] pos) env) Q E₀ s:=by
  refine mY (f:=.type T) (l:=[e,e']) (io:=io) (x:=x) (.inr ⟨_,rfl⟩) (List.cons_ne_nil _ _) (Bool.and_eq_true_iff.mpr ⟨hc,Bool.and_eq_true_iff.mpr ⟨hc',rfl⟩⟩) (wpAny_mono hl (fun v s' h=>⟨h.1,?_⟩) fun _ _ x=>x)
  rw[aH (bw hc),aH (bw hc')]
  exact bX (wpAny_mono h.2 (fun v s₂ h=>bX (wpAny_mono h (fun v s₂ h=>wpAny_pure h) fun _ _ x=>x)) fun _ _ x=>x)
theorem c9(y:Y)(j:Nat):y.no (y.h.objs.size+j):=by
  unfold Y.no
  cases e:y.h.get? (y.h.objs.size+j)with
  |none=>rfl
  |some o=>exact absurd (Heap.lt_size e) (Nat.not_lt.mpr (Nat.le_add_right _ _))
@[elab_as_elim] theorem u3{e:E}{G:Tab}{xs:List M}{R:List M→Prop}(h:evS G Φ steady (.enum e) σ=some (xs,σ'))(k2:∀m l,ev G Φ e σ=some (m,σ')→(!steady||(e.temp||m.isV))=true→m.list?=some l→R ((bS 0 l).map .v)):R xs:=
  oP h fun m σ₁ h1 h=>oI h fun hs h=>oM h fun l hl e=>by
    obtain⟨rfl,rfl⟩:=Prod.mk.inj e
    exact k2 m l h1 (Bool.or_assoc ..▸hs) hl
theorem rJ(FC:Facts C){e:E}(S₁:SE C Φ d e):SI C Φ d (.enum e):=fun{k y σ p tgt steady xs σ' Q} S hB hc ht he=>u3 he fun m l h1 hs hl hq=>xe hc fun n np p z hg hc=>by
  obtain⟨es,ek,tp,rfl⟩:=ht
  refine call1 hc (gO FC S hg (by decide) (v:=.type "enumerate") (by decide +kernel) ⟨rfl,?_⟩)
  refine S₁ S hB hc h1 fun v y' N R r=>r.where_ (R:=fun v=>wpAny _ _ (call _ [v]) _ _ y'.s) hl hs fun la vs hL hz rv hw=>?_
  have hl:=aQ hL
  refine call_enumerate_list hl fun h' g1 g2 g3 hk=>wpAny_pyIter_enum g1 ?_
  have mv:=bI (y:=y') (t:=y'.s.toks) hk
  have hlt:=gU hl
  have R':=R.grow (N':=[y'.h.objs.size+1,y'.h.objs.size]) mv rfl rfl (fun _ h=>.inl h) (List.nodup_cons.mpr ⟨fun q=>absurd (List.mem_singleton.mp q) (Nat.succ_ne_self _),List.nodup_cons.mpr ⟨nofun,.nil⟩⟩) (lU ⟨c9 y' 1,_,g1⟩ ⟨d6 y',c8 g2⟩)
  refine hq _ (y'.to { y'.s with heap:=h' }) [y'.h.objs.size+1,y'.h.objs.size] [] N [y'.h.objs.size+1,y'.h.objs.size,la] (zF C (y'.h.objs.size+1) y'.h.objs.size la vs l) R' (sQ hB.handled _ _ la (Nat.succ_ne_self _) (Nat.ne_of_lt (Nat.lt_succ_of_lt hlt)) (Nat.ne_of_lt hlt) vs l) ⟨rfl,⟨_,g1⟩,g2,hl.at fun o e=>hk la o e,rv.stay mv.stay0⟩ fun b hb=>?_
  rcases List.mem_cons.mp hb with rfl|hb
  · exact .inl (.head _)
  refine Dt ?_ ?_ hb
  · exact .inl (.tail _ (.head _))
  · exact .inr hw
theorem n6{a b:Int}:Builtin.Range.rangeSize a b 1=((b-a).toNat:Int):=by
  rw[rangeSize_one];split<;>lia
theorem u4{a b:Int}(h:(b-a).toNat≤big∧a.natAbs≤1099511627776∧b.natAbs≤1099511627776):Builtin.Range.small a b 1=true:=by
  unfold Builtin.Range.small
  rw[n6]
  have hb:big=1048576:=rfl
  simp only[Builtin.Range.rangeFitsLong,Bool.and_eq_true,Bool.or_eq_true,decide_eq_true_eq]
  refine⟨⟨⟨⟨⟨?_,?_⟩,?_,?_⟩,by decide⟩,?_,?_⟩,.inr ?_⟩
  all_goals first|lia|(simp;(exact⟨(by trivial),(by trivial)⟩))|skip
noncomputable def Bm(a b:Int)(t u v:Tok):Obj:={ cls:=.type "range",data:=.fields #[.int a t,.int b u,.int 1 v] }
theorem rK{c c':Bool}{a b:Int}{t u v:Tok}{n:ae}{p:Pos}{tk:Nat}{Q:Value→Shared→Prop}(hB:Bud k.A d)(hz:(b-a).toNat≤big∧a.natAbs≤1099511627776∧b.natAbs≤1099511627776)(R:Run C k y σ c y' σ' N)(hcc:c'=true→c=true)
    (hq:n5 C k y σ c' (.Name n p) steady ((bt a b).map .v) σ' Q):W C k (pyIter (.ref y'.h.objs.size)) Q { y'.s with heap:=y'.h.push (Bm a b t u v),toks:=tk }:=by
  refine wpAny_pyIter_range (IsRange.new ..) (u4 hz) ?_
  have ha:=Heap.get?_push_size (y'.h.push (Bm a b t u v)) (o:={ cls:=.type "range_iterator",data:=.fields #[rawInt a,rawInt (Builtin.Range.rangeSize a b 1),rawInt 1] }) rfl
  rw[Heap.size_push]at ha ⊢
  have mv:Mv y' (y'.to { y'.s with heap:=(y'.h.push (Bm a b t u v)).push { cls:=.type "range_iterator",data:=.fields #[rawInt a,rawInt (Builtin.Range.rangeSize a b 1),rawInt 1] },toks:=tk }) []:=bI fun b o e=>Heap.get?_push_of_some _ (Heap.get?_push_of_some _ e)
  refine hq _ _ [y'.h.objs.size+1] [] N [y'.h.objs.size+1] _ ((R.mono hcc).new1 mv (c9 y' 1) ⟨_,ha⟩) (pQ hB.handled _ a b) ⟨rfl,?_⟩ fun b hb=>.inl hb
  show _=_
  refine ha.trans ?_
  rw[n6,show a+((0:Nat):Int)=a from Int.add_zero a,show((b-a).toNat:Int)-((0:Nat):Int)=(b-a).toNat from Int.sub_zero _]
theorem xK{a:Option E}{b:E}{G:Tab}{xs:List M}{R:List M→Prop}(h:evS G Φ steady (.rng a b) σ=some (xs,σ'))(j:∀x σ₁ z,evO G Φ a σ=some (x,σ₁)→ev G Φ b σ₁=some (.v (.int z),σ')→((z-x.getD 0).toNat≤big∧(x.getD 0).natAbs≤1099511627776∧z.natAbs≤1099511627776)→R ((bt (x.getD 0) z).map .v)):R xs:=
  oP h fun x σ₁ h1 h=>oP h fun m σ₂ h2 h=>oB h fun z hz h=>oI h fun hb e=>by
    obtain⟨rfl,rfl⟩:=Prod.mk.inj (Option.some.inj e)
    exact j x σ₁ z h1 (gh hz▸h2) hb
theorem u5(FC:Facts C){e₁:Option E}{e₂:E}(S₁:∀e,e₁=some e→SE C Φ d e)(S₂:SE C Φ d e₂):SI C Φ d (.rng e₁ e₂):=fun{k y σ p tgt steady xs σ' Q} S hB hc ht he=>by
  refine xK (R:=fun xs=>n5 C k y σ _ tgt steady xs σ' Q→_) he fun x σ₁ z h1 h2 hz hq=>?_
  obtain⟨tn,tp,rfl⟩:=ht
  cases e₁ with
  |none=>
    cases h1
    exact xc hc fun n np p z hg hc=>call1 hc (gO FC S hg (by decide) (v:=.type "range") (by decide +kernel) ⟨rfl,S₂ S hB hc h2 fun v y' N R r=>r.v.int_e (R:=fun v=>wpAny _ _ (call _ [v]) _ _ y'.s) fun t=>call_range_1 (rK hB hz R id hq)⟩)
  |some e=>
    revert hq hz
    refine zB h1 fun i h1 hz hq=>xd hc fun n np p q z hg hc hc'=>zI hc hc' (gO FC S hg (by decide) (v:=.type "range") (by decide +kernel) ⟨rfl,?_⟩)
    exact eQ (S₁ e rfl) S₂ S hB hc hc' h1 h2 rfl fun u v y' N₁ N₂ R r₁ r₂=>xk (R:=fun u v=>wpAny _ _ (call _ [u,v]) _ _ y'.s) r₁ r₂ rfl rfl fun t t'=>call_range_2 (rK hB hz R id hq)
theorem sR(sz la lb:Nat)(h:la<sz)(h':lb<sz):ZipApart (sz+4) (sz+2) (sz+3) sz (sz+1) la lb:=by
  constructor<;>(intro q;have q:(_:Nat)=_:=q;lia)
theorem xL{a b:E}{G:Tab}{xs:List M}{R:List M→Prop}(h:evS G Φ steady (.zip a b) σ=some (xs,σ'))(j:∀m σ₁ x n z,b.calm G.io=true→ev G Φ a σ=some (m,σ₁)→m.list?=some x→ev G Φ b σ₁=some (n,σ')→n.list?=some z→(!steady||(a.temp||m.isV))=true→(!steady||(b.temp||n.isV))=true→R ((iz x z).map .v)):R xs:=
  oI h fun hcb h=>oP h fun m σ₁ h1 h=>oB h fun x hx h=>oP h fun n σ₂ h2 h=>oI h fun hs h=>oM h fun z hz e=>by
    obtain⟨rfl,rfl⟩:=Prod.mk.inj e
    refine j m σ₁ x n z hcb h1 hx h2 hz ?_ ?_<;>
    · cases steady with
      |false=>rfl
      |true=>first|exact(a2_ hs).1|exact(a2_ hs).2
theorem nd5{n:Nat}:[n+4,n+3,n,n+1,n+2].Nodup:=by
  have h:∀{a b:Nat},a≠b→n+a≠n+b:=fun h e=>h (Nat.add_left_cancel e)
  refine List.nodup_cons.mpr ⟨n4 (h (by decide)) (h (b:=0) (by decide)) (h (by decide)) (h (by decide)),List.nodup_cons.mpr ⟨fun q=>?_,List.nodup_cons.mpr ⟨fun q=>?_,List.nodup_cons.mpr ⟨fun q=>absurd (List.mem_singleton.mp q) (h (by decide)),List.nodup_cons.mpr ⟨nofun,.nil⟩⟩⟩⟩⟩
  · exact(List.mem_cons.mp q).elim (h (b:=0) (by decide)) fun q=>lU (P:=fun x=>n+3≠x) (h (by decide)) (h (by decide)) _ q rfl
  · exact lU (P:=fun x=>n≠x) (h (a:=0) (by decide)) (h (a:=0) (by decide)) _ q rfl
theorem u6(FC:Facts C){e₁ e₂:E}(S₁:SE C Φ d e₁)(S₂:SE C Φ d e₂):SI C Φ d (.zip e₁ e₂):=fun{k y σ p tgt steady xs σ' Q} S hB hc ht he=>by
  refine xL (R:=fun xs=>n5 C k y σ _ tgt steady xs σ' Q→_) he fun m σ₁ l m' l' hcb h1 hl h2 hl' hs hs' hq=>Aw hc fun n np p q z hg hc hc'=>?_
  obtain⟨es,ek,tp,rfl⟩:=ht
  refine zI hc hc' (gO FC S hg (by decide) (v:=.type "zip") (by decide +kernel) ⟨rfl,eQ S₁ S₂ S hB hc hc' h1 h2 (xt hcb) fun u v y' N₁ N₂ R r₁ r₂=>?_⟩)
  refine r₁.where_ (R:=fun u=>wpAny _ _ (call _ [u,v]) _ _ y'.s) hl hs fun la vs hL hz rv hw=>r₂.where_ (R:=fun v=>wpAny _ _ (call _ [_,v]) _ _ y'.s) hl' hs' fun lb vs' hL' hz' rv' hw'=>?_
  have iL:=aQ hL
  have iL':=aQ hL'
  refine call_zip_2 iL iL' fun h' g1 g2 g3 g4 g5 g6 hk=>wpAny_pyIter_zip g1 ?_
  have mv:=bI (y:=y') (t:=y'.s.toks) hk
  have D:=sR y'.h.objs.size la lb (gU iL) (gU iL')
  have R':=R.grow (N':=[y'.h.objs.size+4,y'.h.objs.size+3,y'.h.objs.size,y'.h.objs.size+1,y'.h.objs.size+2]) mv rfl rfl (fun _ h=>.inl h) nd5 fun b hb=>
    (List.mem_cons.mp hb).elim (fun e=>e▸⟨c9 y' 4,_,g1⟩) fun hb=>m4 (P:=fun b=>y'.no b∧Y.has _ b) ⟨c9 y' 3,_,g3⟩ ⟨d6 y',c8 g4⟩ ⟨c9 y' 1,c8 g5⟩ ⟨c9 y' 2,_,g2⟩ b hb
  refine hq _ (y'.to { y'.s with heap:=h' }) [y'.h.objs.size+4,y'.h.objs.size+3,y'.h.objs.size,y'.h.objs.size+1] [] ((y'.h.objs.size+2)::(N₂++N₁)) [y'.h.objs.size+4,y'.h.objs.size+2,y'.h.objs.size+3,y'.h.objs.size,y'.h.objs.size+1,la,lb] (ZipI C (y'.h.objs.size+4) (y'.h.objs.size+2) (y'.h.objs.size+3) y'.h.objs.size (y'.h.objs.size+1) la lb vs vs' l l') R' (u0 hB.handled _ _ _ _ _ la lb D vs vs' l l')
    ⟨rfl,g1,g2,⟨_,_,g3⟩,g4,g5,iL.at fun o e=>hk la o e,iL'.at fun o e=>hk lb o e,rv.stay mv.stay0,rv'.stay mv.stay0⟩ fun b hb=>?_
  have wd:∀{b N},nZ y' steady N b→(∀b∈N,b∈N₂++N₁)→nZ (y'.to { y'.s with heap:=h' }) steady ((y'.h.objs.size+2)::(N₂++N₁)) b:=fun h hN=>h.imp id (Or.imp (fun q=>.tail _ (hN _ q)) id)
  rcases List.mem_cons.mp hb with rfl|hb
  · exact .inl (.head _)
  rcases List.mem_cons.mp hb with rfl|hb
  · exact .inr (.inr (.inl (.head _)))
  rcases List.mem_cons.mp hb with rfl|hb
  · exact .inl (.tail _ (.head _))
  refine EN ?_ ?_ ?_ ?_ hb
  · exact .inl (.tail _ (.tail _ (.head _)))
  · exact .inl (.tail _ (.tail _ (.tail _ (.head _))))
  · exact .inr (wd hw fun b=>List.mem_append_right _)
  · exact .inr (wd hw' fun b=>List.mem_append_left _)
end
end Mine.Internal
end
section
namespace Mine.Internal
open PySem PySem.W PySem.Calls PyProof.Rows
section
variable {C:Cx} {y:Y}
theorem mZ{y y':Y}{f pre post:List Addr}(T:Stay y y' ((f++pre)++post)):Stay y y' f∧Stay y y' (pre++post):=
  ⟨T.sub fun b hb=>List.mem_append_left _ (List.mem_append_left _ hb),T.sub fun b hb=>(List.mem_append.mp hb).elim (fun q=>List.mem_append_left _ (List.mem_append_right _ q)) (List.mem_append_right _)⟩
theorem ki{a:String}{f:M→Option M}(hf:f .undef=none){fs:List (String×M)}:∀{R:List Addr→Prop} {fs':List (String×M)} {kvs:List (ae×Value)} {fp:List Addr},az C y kvs fs fp→gE a f fs=some fs'→
    (∀m m' u pre g post,ag C y u m g→m≠.undef→f m=some m'→kvs.lookup (Str.ofString a)=some u→(∀{y':Y} {g':List Addr},Stay y y' (pre++post)→ag C y' u m' g'→az C y' kvs fs' (pre++(g'++post)))→R (pre++(g++post)))→R fp:=by
  induction fs with
  |nil=>intro R fs' kvs fp _ e _;exact ns e
  |cons p r ih=>
    intro R fs' kvs fp q e j
    obtain⟨n,x⟩:=p
    have e:(if n=a then(f x).map fun z=>(n,z)::r else(gE a f r).map fun q=>(n,x)::q)=some fs':=e
    refine az.cons_e (R:=fun kvs fp=>(∀m m' u pre g post,ag C y u m g→m≠.undef→f m=some m'→kvs.lookup (Str.ofString a)=some u→(∀{y':Y} {g':List Addr},Stay y y' (pre++post)→ag C y' u m' g'→az C y' kvs fs' (pre++(g'++post)))→R (pre++(g++post)))→R fp) q (fun u ws g h h1 h2 j=>?_) j
    by_cases hn:n=a
    · subst hn
      rw[if_pos rfl]at e
      refine oM e fun z hz e=>j x z u [] g h h1 (fun e=>ns ((e▸hf:f x=none).symm.trans hz)) hz gQ fun T r'=>e▸(az.cons r' (h2.stay T):)
    · rw[if_neg hn]at e
      refine oM e fun q' hq' e=>ih (R:=fun h=>R (g++h)) h2 hq' fun m m' v pre g' post r1 r2 r3 r4 r5=>?_
      have:=j m m' v (g++pre) g' post r1 r2 r3 ((fV (mQ (Ne.symm hn))).trans r4) fun T r'=>by
        rw[List.append_assoc]
        exact e▸.cons (h1.stay (mZ T).1) (r5 (mZ T).2 r')
      rwa[List.append_assoc]at this
theorem u7{l:List M}:∀{R:List Addr→Prop} {us:List Value} {fp:List Addr} {i:Nat} {x:M},aw C y us l fp→l[i]?=some x→
    (∀u pre g post,ag C y u x g→us[i]?=some u→(∀{y':Y} {g':List Addr} z,Stay y y' (pre++post)→ag C y' u z g'→aw C y' us (l.set i z) (pre++(g'++post)))→R (pre++(g++post)))→R fp:=by
  induction l with
  |nil=>intro R us fp i x _ e _;exact ns e
  |cons m r ih=>
    intro R us fp i x q e j
    refine aw.cons_e (R:=fun us fp=>(∀u pre g post,ag C y u x g→us[i]?=some u→(∀{y':Y} {g':List Addr} z,Stay y y' (pre++post)→ag C y' u z g'→aw C y' us ((m::r).set i z) (pre++(g'++post)))→R (pre++(g++post)))→R fp) q (fun u ws g h h1 h2 j=>?_) j
    cases i with
    |zero=>cases e;exact j u [] g h h1 rfl fun z T r'=>(aw.cons r' (h2.stay T):)
    |succ i=>
      refine ih (R:=fun h=>R (g++h)) h2 e fun v pre g' post r1 r2 r3=>?_
      have:=j v (g++pre) g' post r1 r2 fun z T r'=>by
        rw[List.append_assoc]
        exact .cons (h1.stay (mZ T).1) (r3 z (mZ T).2 r')
      rwa[List.append_assoc]at this
end
structure Spot where
  i:Nat
  m:M
  m':M
  z:M
  z':M
  w:Value
  pre:List Addr
  fp:List Addr
  post:List Addr
structure Foc (C:Cx) (y:Y) (σ:List M) (f:M→Option M) (σ':List M) (u:Value) (o:Spot):Prop where
  at_:σ[o.i]?=some o.z
  ne:o.z≠.undef
  eq:σ'=σ.set o.i o.z'
  ne':o.z'≠.undef
  w:y.ρ[o.i]?=some o.w
  os:y.os[o.i]?=some (o.pre++(o.fp++o.post))
  rep:ag C y u o.m o.fp
  nem:o.m≠.undef
  f:f o.m=some o.m'
  back:∀{y':Y} {g:List Addr},Stay y y' (o.pre++o.post)→ag C y' u o.m' g→ag C y' o.w o.z' (o.pre++(g++o.post))
noncomputable def kj(f:M→Option M):Prop:=f .undef=none∧∀m m',f m=some m'→m'≠.undef
noncomputable def SR(C:Cx)(Φ:Phi)(d:Nat)(r:E):Prop:=∀{k:Kx} {y:Y} {σ:List M} {p:PySem.Expr} {f:M→Option M} {σ':List M} {Q:Value→Shared→Prop},
  kj f→St C k y σ→Bud k.A d→af C.G.io k.a.sx r p=true→bD C.G Φ r f σ=some σ'→(∀u y' o,Run C k y σ true y' σ []→Foc C y' σ f σ' u o→Q u y'.s)→W C k (eval p k.a.env) Q y.s
section
variable {C:Cx} {Φ:Phi} {d:Nat} {k:Kx} {y y':Y} {σ σ':List M} {f:M→Option M} {u:Value} {o:Spot}
theorem EO{P:Addr→Prop}{a b c:List Addr}(h1:∀x∈a,P x)(h2:∀x∈b,P x)(h3:∀x∈c,P x):∀x∈a++(b++c),P x:=fun x hx=>(List.mem_append.mp hx).elim (h1 x) fun hx=>(List.mem_append.mp hx).elim (h2 x) (h3 x)
theorem Foc.stay(F:Foc C y σ f σ' u o)(T:Stay y y' y.os.flatten)(hρ:y'.ρ=y.ρ)(ho:y'.os=y.os):Foc C y' σ f σ' u o:=by
  have hm:∀b∈o.pre++(o.fp++o.post),b∈y.os.flatten:=fun b hb=>bW F.os hb
  refine⟨F.at_,F.ne,F.eq,F.ne',hρ▸F.w,ho▸F.os,F.rep.stay (T.sub fun b hb=>hm b (List.mem_append_right _ (List.mem_append_left _ hb))),F.nem,F.f,fun T' r=>F.back ((T.sub fun b hb=>hm b ?_).trans T') r⟩
  exact(List.mem_append.mp hb).elim (List.mem_append_left _) fun q=>List.mem_append_right _ (List.mem_append_right _ q)
theorem gV{i:Nat}{G:Tab}{R:List M→Prop}(h:bD G Φ (.var i) f σ=some σ')(j:∀m m',σ[i]?=some m→m≠.undef→f m=some m'→R (σ.set i m')):R σ':=by
  have h:(match σ[i]? with|some .undef=>none|some m=>(f m).map fun m'=>σ.set i m'|none=>none)=some σ':=h
  cases hx:σ[i]? with
  |none=>rw[hx]at h;exact ns h
  |some x=>
    rw[hx]at h
    rcases nS x with rfl|⟨hn,hf⟩
    · exact ns h
    · exact oM ((hf _).symm.trans h) fun m' hm e=>e▸j x m' hx hn hm
theorem kl{i:Nat}{m m':M}{x:String}{g:List Addr}(L:Slot C k.a y i m x u g)(hm:σ[i]?=some m)(hne:m≠.undef)(hf:f m=some m')(hn:m'≠.undef):Foc C y σ f (σ.set i m') u ⟨i,m,m',m,m',u,[],g,[]⟩:=
  ⟨hm,hne,rfl,hn,L.ρ,(List.append_nil g).symm▸L.o,L.rep,hne,hf,fun T r=>(List.append_nil _).symm▸r⟩
theorem Bn(i:Nat):SR C Φ d (.var i):=fun{k y σ p f σ' Q} hf S hB hc he hq=>iD hc fun n z hc=>by
  refine gV (R:=fun σ'=>(∀u y' o,Run C k y σ true y' σ []→Foc C y' σ f σ' u o→Q u y'.s)→_) he (fun m m' hm hne hm' hq=>?_) hq
  exact wpAny_Name (eP S hc hm hne fun x u fp L=>hq u y _ (.refl S _) (kl L hm hne hm' (hf.2 _ _ hm'))) (Sx.isVar_dbg hc)
theorem gW{f':M→Option M}{v:Value}{n n':M}{pre g post:List Addr}(F:Foc C y σ f' σ' u o)(e:o.fp=pre++(g++post))(r1:ag C y v n g)(r2:n≠.undef)(r3:f n=some n')
    (r4:∀{y':Y} {g':List Addr},Stay y y' (pre++post)→ag C y' v n' g'→ag C y' u o.m' (pre++(g'++post))):Foc C y σ f σ' v ⟨o.i,n,n',o.z,o.z',o.w,o.pre++pre,g,post++o.post⟩:=by
  refine⟨F.at_,F.ne,F.eq,F.ne',F.w,?_,r1,r2,r3,fun{y' g'} T r=>?_⟩
  · rw[F.os,e];simp only[List.append_assoc]
  · have T1:Stay y y' (pre++post):=T.sub fun b hb=>(List.mem_append.mp hb).elim (fun q=>List.mem_append_left _ (List.mem_append_right _ q)) fun q=>List.mem_append_right _ (List.mem_append_left _ q)
    have T2:Stay y y' (o.pre++o.post):=T.sub fun b hb=>(List.mem_append.mp hb).elim (fun q=>List.mem_append_left _ (List.mem_append_left _ q)) fun q=>List.mem_append_right _ (List.mem_append_right _ q)
    have:=F.back T2 (r4 T1 r)
    simpa only[List.append_assoc]using this
@[elab_as_elim] theorem n7{G:Tab}{n:String}{m m':M}{R:M→M→Prop}(h:f_ G n f m=some m')(j:∀c fs fs',G.prop c n=none→gE n f fs=some fs'→R (.obj c fs) (.obj c fs')):R m m':=by
  cases m with
  |obj c fs=>
    have h:(match G.prop c n with|none=>(gE n f fs).map (M.obj c)|some _=>none)=some m':=h
    cases hp:G.prop c n with
    |none=>rw[hp]at h;exact oM h fun fs' hu e=>e▸j c fs fs' hp hu
    |some q=>rw[hp]at h;exact ns h
  |_=>exact ns h
theorem Bo{c:String}{fs:List (String×M)}{a d':Addr}{kvs:List (ae×Value)}{g' pre post:List Addr}(h2:gJ C y c a d' kvs)(T:Stay y y' ((a::d'::pre)++post))(r:az C y' kvs fs (pre++(g'++post))):ag C y' (.ref a) (.obj c fs) ((a::d'::pre)++(g'++post)):=
  ⟨a,d',kvs,_,rfl,rfl,h2.keep (T.own a (.head _)) (T.own d' (.tail _ (.head _))),r⟩
theorem kn{pre post:List Addr}{a:Addr}(T:Stay y y' ((a::pre)++post)):Stay y y' (pre++post):=T.sub fun _ hb=>.tail _ hb
theorem xM(FC:Facts C){r:E}{n:String}(S₁:SR C Φ d r):SR C Φ d (.attr r n):=fun{k y σ p f σ' Q} hf S hB hc he hq=>jt hc fun v z hc0 hc1 hn=>by
  refine lL hc0 (S₁ (f:=f_ C.G n f) ⟨rfl,fun m m' h=>n7 (R:=fun _ m'=>m'≠.undef) h fun _ _ _ _ _=>nofun⟩ S hB hc1 he fun u y₁ o R F=>?_)
  obtain⟨i,m,m',z,z',w,pre,fp,post⟩:=o
  have hF:=F.f
  have hR:=F.rep
  dsimp only at hF hR
  revert F hR
  refine n7 hF fun c fs fs' hp hu F hR=>?_
  obtain⟨b,dd,kvs,f1,rfl,rfl,h2,h3⟩:=hR
  refine ki (R:=fun f1=>Foc C y₁ σ (f_ C.G n f) σ' (.ref b) ⟨i,.obj c fs,.obj c fs',z,z',w,pre,b::dd::f1,post⟩→_) hf.1 h3 hu (fun nm nm' v pre' g post' r1 r2 r3 r4 r5 F=>?_) F
  obtain⟨A',es,j,hcl,g1,g2,hent⟩:=id h2
  obtain⟨t,ht,hg⟩:=FC.attr c A' hcl n hn hp
  have I:InstAt y₁.h b (instObj A' dd) A' (some (dictOf es j)):=⟨g1,rfl,rfl,g2⟩
  have h4:getL (Str.ofString n) es=some (some v):=hent.get.trans (congrArg some r4)
  have F':=gW F (pre:=b::dd::pre') (f:=f) rfl r1 r2 r3 fun T r=>Bo h2 T (r5 (kn (kn T)) r)
  exact get_value (kb FC R.st.ht) I (plainGet_of (FC.get c A' hcl (Str.ofString n))).1 (findObj_own (FC.dict c A' hcl) ht hg h4) (iG r1 r2) (hq v (y₁.to { y₁.s with toks:=y₁.s.toks+1 }) _ (R.still (a4 ..)) (F'.stay (a4 y₁ (y₁.s.toks+1) []).stay0 rfl rfl))
@[elab_as_elim] theorem kq{km m m':M}{R:M→M→M→Prop}(h:dv km f m=some m')(k1:∀fs s fs',gE s f fs=some fs'→R (.v (.str s)) (.dct fs) (.dct fs'))(k2:∀l i j x z,ix i l.length=some j→l[j]?=some x→f x=some z→R (.v (.int i)) (.lstM l) (.lstM (l.set j z))):R km m m':=by
  cases m with
  |dct fs=>
    cases km with
    |v x=>
      cases x with
      |str s=>exact oM (o:=gE s f fs) h fun fs' hu e=>e▸k1 fs s fs' hu
      |_=>exact ns h
    |_=>exact ns h
  |lstM l=>
    cases km with
    |v x=>
      cases x with
      |int i=>exact oB (o:=ix i l.length) h fun j hj h=>oB (o:=l[j]?) h fun x hx h=>oM h fun z hz e=>e▸k2 l i j x z hj hx hz
      |_=>exact ns h
    |_=>exact ns h
  |_=>exact ns h
theorem lV{km:M}(hf:kj f):kj (dv km f):=⟨rfl,fun m m' h=>kq (R:=fun _ _ m'=>m'≠.undef) h (fun _ _ _ _=>nofun) fun _ _ _ _ _ _ _ _=>nofun⟩
theorem n8{r i:E}{G:Tab}{R:Prop}(h:bD G Φ (.sub r i) f σ=some σ')(j:∀km σ₁,i.calm G.io=true→ev G Φ i σ=some (km,σ₁)→bD G Φ r (dv km f) σ=some σ'→R):R:=
  oI h fun hc h=>oP h fun km σ₁ hk h=>j km σ₁ hc hk h
theorem Bp{l:List M}{a:Addr}{vs:Array Value}{g' pre post:List Addr}(hl:y.h.PlainList a vs)(hz:l.length≤big)(T:Stay y y' ((a::pre)++post))(r:aw C y' vs.toList l (pre++(g'++post))):ag C y' (.ref a) (.lstM l) ((a::pre)++(g'++post)):=
  ⟨a,vs,_,rfl,rfl,d4 hl (T.own a (.head _)),hz,r⟩
theorem u8{fs:List (String×M)}{a:Addr}{kvs:List (ae×Value)}{g' pre post:List Addr}(hl:iA C y a kvs)(T:Stay y y' ((a::pre)++post))(r:az C y' kvs fs (pre++(g'++post))):ag C y' (.ref a) (.dct fs) ((a::pre)++(g'++post)):=
  ⟨a,kvs,_,rfl,rfl,lG hl (T.own a (.head _)),r⟩
theorem Bq{r i:E}(S₁:SR C Φ d r)(S₂:SE C Φ d i):SR C Φ d (.sub r i):=fun{k y σ p f σ' Q} hf S hB hc he hq=>n8 he fun km σ₁ hcal hk he=>mN hc fun v kk z hc1 hc2=>by
  refine Subscript_ (S₁ (lV hf) S hB hc1 he fun u y₁ o R F=>S₂ (k:=k.on []) R.st hB hc2 hk fun kv y₂ N R₂ rk=>?_)
  rw[hcal]at R₂
  obtain⟨rfl,hρ,hos⟩:=R₂.calm rfl
  replace F:=F.stay (R₂.mv.stay0) hρ hos
  have R':Run C k y σ₁ true y₂ σ₁ []:=(R.trans R₂).drop0
  have done:∀{w o' t},Foc C y₂ σ₁ f σ' w o'→Q w { y₂.s with toks:=t }:=fun{w o' t} F=>hq w (y₂.to { y₂.s with toks:=t }) o' (R'.still (a4 ..)) (F.stay (a4 y₂ t []).stay0 rfl rfl)
  obtain⟨i,m,m',z,z',w,pre,fp,post⟩:=o
  have hF:=F.f
  have hR:=F.rep
  have rk:=rk.at_
  dsimp only at hF hR
  revert F hR rk
  refine kq hF (fun fs s fs' hu F hR rk=>?_) fun l i j x z hj hx hz' F hR rk=>?_
  · obtain⟨b,kvs,f1,rfl,rfl,h2,h3⟩:=hR
    obtain⟨_,_,tk,rfl⟩:=rk
    refine ki (R:=fun f1=>Foc C y₂ σ₁ _ σ' (.ref b) ⟨_,.dct fs,.dct fs',_,_,_,pre,b::f1,post⟩→_) hf.1 h3 hu (fun nm nm' v pre' g post' r1 r2 r3 r4 r5 F=>?_) F
    exact nV hc2 h2 r4 fun t=>done (gW F (pre:=b::pre') (f:=f) rfl r1 r2 r3 fun T r=>u8 h2 T (r5 (kn T) r))
  · obtain⟨b,vs,f1,rfl,rfl,h2,hz,h3⟩:=hR
    obtain⟨_,_,tk,rfl⟩:=rk
    refine u7 (R:=fun f1=>Foc C y₂ σ₁ _ σ' (.ref b) ⟨_,.lstM l,.lstM (l.set j z),_,_,_,pre,b::f1,post⟩→_) h3 hx (fun v pre' g post' r1 r2 r3 F=>?_) F
    exact nU hc2 (.inr (aQ h2)) (h3.size▸hz) (h3.size▸hj) (Array.getElem?_toList.symm.trans r2) fun t=>done (gW F (pre:=b::pre') (f:=f) rfl r1 (fun e=>ns ((e▸hf.1:f x=none).symm.trans hz')) hz' fun T r=>Bp h2 ((List.length_set ..).symm▸hz) T (r3 z (kn T) r))
end
end Mine.Internal
end
section
namespace Mine.Internal
open PySem PySem.W PySem.Calls PyProof.Rows
section
variable {C:Cx} {k:Kx} {y y₁:Y} {σ σ':List M} {f:M→Option M} {u:Value} {o:Spot} {g N rest fp':List Addr} {s:Shared}
theorem Foc.vars{y₂:Y}{new:List Addr}(F:Foc C y₁ σ f σ' u o)(V:Vars C k.a y₁ σ)(T:Stay y₁ y₂ (k.a.fr++(y₁.os.set o.i []).flatten))(hρ:y₂.ρ=y₁.ρ)(ho:y₂.os=y₁.os.set o.i new)(r:ag C y₂ o.w o.z' new):Vars C k.a y₂ σ':=by
  have hi:=bL F.at_
  rw[F.eq]
  refine⟨hρ▸V.lenR.trans (List.length_set ..).symm,ho▸(List.length_set ..).trans (V.lenO.trans (List.length_set ..).symm),V.lenV.trans (List.length_set ..).symm,?_,fun x c e=>?_,fun j mj e hne=>fe e (fun hij em=>?_) fun hij e=>?_,fun j e=>fe e (fun _ em=>absurd em F.ne') fun hij e=>ho▸(List.getElem?_set_ne hij).trans (V.und j e),hρ▸V.pin⟩
  · obtain⟨m,o,es,ep,ho,q⟩:=V.ns;exact⟨m,o,es,ep,T.own _ (List.mem_append_left _ k.hE.locals) o ho,q⟩
  · obtain⟨u,o,ho,q⟩:=V.cell x c e;exact⟨u,o,T.own _ (List.mem_append_left _ (k.hE.cells x c e)) o ho,q⟩
  · subst hij em
    obtain⟨x,u',g,L⟩:=V.at_ o.i o.z F.at_ F.ne
    obtain rfl:u'=o.w:=Option.some.inj (L.ρ.symm.trans F.w)
    exact⟨x,o.w,new,L.v,hρ▸L.ρ,ho▸pI F.os,L.at_.stay k.hE fun b hb=>T.own b (List.mem_append_left _ hb),r⟩
  · obtain⟨x,u',g,L⟩:=V.at_ j mj e hne
    have q3:(y₁.os.set o.i [])[j]?=some g:=(List.getElem?_set_ne hij).trans L.o
    exact⟨x,u',g,L.v,hρ▸L.ρ,ho▸(List.getElem?_set_ne hij).trans L.o,L.at_.stay k.hE fun b hb=>T.own b (List.mem_append_left _ hb),L.rep.stay (T.sub fun b hb=>List.mem_append_right _ (bW q3 hb))⟩
theorem kr(F:Foc C y₁ σ f σ' u o)(G:Go C k y y₁ σ (g++N))(mv:Mv y₁ (y₁.to s) o.fp)(hp:(o.fp++g).Perm (fp'++rest))(r':ag C (y₁.to s) u o.m' fp'):Go C k y ((y₁.to s).va y₁.ρ (y₁.os.set o.i (o.pre++(fp'++o.post)))) σ' N:=by
  have H:=G.st.ht
  have p1:=cz F.os
  have p2:=dP (g:=o.pre++(fp'++o.post)) F.os
  have hfo:∀b∈o.fp,b∈y₁.os.flatten:=fun b hb=>bW F.os (List.mem_append_right _ (List.mem_append_left _ hb))
  have HT1:HT C y₁ (o.fp++(g++(k.a.fr++(o.pre++(o.post++((y₁.os.set o.i []).flatten++(N++k.X))))))):=H.perm ((List.Perm.append_left _ (p1.append_right _)).trans (pm [k.a.fr,o.pre,o.fp,o.post,(y₁.os.set o.i []).flatten,g,N,k.X] (.a t0 (.a (.a (.a t1 (.a t2 t3)) t4) (.a (.a t5 t6) t7))) (.a t2 (.a t5 (.a t0 (.a t1 (.a t3 (.a t4 (.a t6 t7))))))) rfl))
  have hO:Stay y₁ (y₁.to s) (k.a.fr++(o.pre++(o.post++((y₁.os.set o.i []).flatten++(N++k.X))))):=mv.stay (C:=C) (HT1.sub (List.Sublist.append (.refl _) (List.sublist_append_right _ _)))
  have HT2:=HT1.perm ((List.Perm.of_eq (List.append_assoc o.fp g _).symm).trans (hp.append_right _))
  have HT2:=HT2.sub (O':=fp'++(k.a.fr++(o.pre++(o.post++((y₁.os.set o.i []).flatten++(N++k.X)))))) (List.Sublist.append (List.sublist_append_left _ _) (.refl _))
  have HT3:HT C (y₁.to s) (fp'++(k.a.fr++(o.pre++(o.post++((y₁.os.set o.i []).flatten++(N++k.X)))))):=by
    refine⟨fun b o' e=>mv.keep b (fun hb=>H.base e (List.mem_append_right _ (List.mem_append_left _ (hfo b hb)))) o' (H.stays b o' e),HT2.nodup,fun b hb=>?_,fun b hb=>(mv.keep b fun q=>H.nF (List.mem_append_right _ (List.mem_append_left _ (hfo b q))) hb).has (H.old b hb),H.base'⟩
    obtain⟨q1,q2,q3⟩:=HT2.own b hb
    exact⟨q1,q2,(List.mem_append.mp hb).elim (fun hb=>(r'.each b hb).imp fun _ h=>h.1) fun hb=>(hO.own b hb).has q3⟩
  have up:∀{O},Stay (y₁.to s) ((y₁.to s).va y₁.ρ (y₁.os.set o.i (o.pre++(fp'++o.post)))) O:=.up rfl fun _ h=>h
  have T:∀{O},(∀b∈O,b∈k.a.fr++(o.pre++(o.post++((y₁.os.set o.i []).flatten++(N++k.X)))))→Stay y₁ ((y₁.to s).va y₁.ρ (y₁.os.set o.i (o.pre++(fp'++o.post)))) O:=fun h=>(hO.sub h).trans up
  refine⟨G.mv.trans (mv.from rfl rfl) fun b hb=>(G.dirt b (.inl (hfo b hb))).imp (List.mem_append_right _) id,⟨(HT3.perm ((pm [fp',k.a.fr,o.pre,o.post,(y₁.os.set o.i []).flatten,N,k.X] (.a t0 (.a t1 (.a t2 (.a t3 (.a t4 (.a t5 t6)))))) (.a t1 (.a (.a (.a t2 (.a t0 t3)) t4) (.a t5 t6))) rfl).trans (.append_left _ (.append_right _ p2.symm)))).re rfl rfl,
    F.vars G.st.vars (T fun b hb=>?_) rfl rfl (F.back (T fun b hb=>?_) (r'.stay up))⟩,fun b hb=>?_⟩
  · exact(List.mem_append.mp hb).elim (List.mem_append_left _) fun q=>List.mem_append_right _ (List.mem_append_right _ (List.mem_append_right _ (List.mem_append_left _ q)))
  · exact List.mem_append_right _ ((List.mem_append.mp hb).elim (List.mem_append_left _) fun q=>List.mem_append_right _ (List.mem_append_left _ q))
  · have own:∀{b},b∈o.pre++(o.fp++o.post)→b∈y₁.os.flatten:=fun h=>bW F.os h
    refine G.dirt b (hb.elim (fun hb=>(List.mem_append.mp (p2.mem_iff.mp hb)).elim (EO (P:=fun b=>b∈y₁.os.flatten∨b∈g++N) (fun b q=>.inl (own (List.mem_append_left _ q))) (fun b q=>?_) (fun b q=>.inl (own (List.mem_append_right _ (List.mem_append_right _ q)))) b) fun q=>.inl (p1.mem_iff.mpr (List.mem_append_right _ q))) fun hb=>.inr (List.mem_append_right _ hb))
    exact(List.mem_append.mp (hp.mem_iff.mpr (List.mem_append_left _ q))).elim (fun q=>.inl (hfo b q)) fun q=>.inr (List.mem_append_left _ q)
theorem xN(F:Foc C y σ f σ' u o)(S:St C k y σ)(r':ag C (y.fz o.fp) u o.m' []):Go C k y ((y.fz o.fp).va y.ρ (y.os.set o.i (o.pre++o.post))) σ' []:=by
  have p1:=cz F.os
  have p2:=dP (g:=o.pre++o.post) F.os
  have T:∀{O},Stay y ((y.fz o.fp).va y.ρ (y.os.set o.i (o.pre++o.post))) O:=.up rfl fun _=>.inl
  refine⟨.up rfl fun _=>.inl,⟨(HT.freeze (S.ht.perm ((List.Perm.append_left _ (p1.append_right _)).trans ((pm [k.a.fr,o.pre,o.fp,o.post,(y.os.set o.i []).flatten,k.X] (.a t0 (.a (.a (.a t1 (.a t2 t3)) t4) t5)) (.a t2 (.a t0 (.a (.a (.a t1 t3) t4) t5))) rfl).trans (.append_left _ (.append_left _ (.append_right _ p2.symm))))))).re rfl rfl,F.vars S.vars T rfl rfl (F.back T (g:=[]) (r'.stay (.up rfl fun _ h=>h)))⟩,fun b hb=>.inl ?_⟩
  refine hb.elim (fun hb=>p1.mem_iff.mpr ((List.mem_append.mp (p2.mem_iff.mp hb)).elim (fun q=>List.mem_append_left _ ?_) fun q=>List.mem_append_right _ q)) nofun
  exact(List.mem_append.mp q).elim (List.mem_append_left _) fun q=>List.mem_append_right _ (List.mem_append_right _ q)
end
end Mine.Internal
end
section
namespace Mine.Internal
open PySem PySem.W PySem.Calls PyProof.Rows
noncomputable def fW(C:Cx)(k:Kx)(y:Y)(σ':List M)(Q:Flow→Shared→Prop):Fl→Prop
  |.next=>∀y',Go C k y y' σ' []→Q .next y'.s
  |.ret m=>∀v y' N,Go C k y y' σ' N→ag C y' v m N→Q (.ret v) y'.s
noncomputable def SS(C:Cx)(Φ:Phi)(d:Nat)(st:S):Prop:=∀{k:Kx} {y:Y} {σ:List M} {p:Stmt} {fl:Fl} {σ':List M} {Q:Flow→Shared→Prop},
  St C k y σ→k.a.cs=none→Bud k.A d→gN C.G.io k.a.sx st p=true→ex C.G Φ st σ=some (fl,σ')→fW C k y σ' Q fl→W C k (exec p k.a.env) Q y.s
section
variable {C:Cx} {Φ:Phi} {d:Nat} {k:Kx} {y y' y₁:Y} {σ σ' σ₁:List M} {N fp:List Addr} {u v:Value} {m m' x:M} {o:Spot} {g:M→Option M} {Q:Flow→Shared→Prop}
theorem dS(k:Kx):interactive k.a.env=false:=by unfold interactive;rw[k.hE.kind];rfl
theorem aw.append{l:List M}:∀{l':List M} {us us':List Value} {f f':List Addr},aw C y us l f→aw C y us' l' f'→aw C y (us++us') (l++l') (f++f'):=by
  induction l with
  |nil=>intro l' us us' f f' r r';exact r.nil_e (R:=fun us f=>aw C y (us++us') l' (f++f')) r'
  |cons a l ih=>intro l' us us' f f' r r';exact r.cons_e (R:=fun us f=>aw C y (us++us') (a::(l++l')) (f++f')) fun u ws f g h1 h2=>(List.append_assoc f g f').symm▸aw.cons h1 (ih h2 r')
theorem iI{la:Addr}(F:Array Value→Array Value):Mv y (y.to { y.s with heap:=y.h.update la (Obj.mapSeq F) }) [la]:=a7 (t:=y.s.toks) (Heap.SameBut.update ..)
theorem iJ{la n:Nat}{vs:Array Value}(h:IsL y.h la vs n)(F:Array Value→Array Value):(y.to { y.s with heap:=y.h.update la (Obj.mapSeq F) }).h.PlainList la (F vs):=⟨_,IsL.update h F⟩
theorem lW{n:Nat}(h:n≤big):n≤sizeLine:=Nat.le_trans h (by decide)
theorem eS{D:Addr}{f1:List Addr}{s:Shared}(F:Foc C y₁ σ g σ' u o)(S:St C (k.on N) y₁ σ₁)(e:o.fp.Perm ([D]++f1))(mv:Mv y₁ (y₁.to s) [D]):Stay y₁ (y₁.to s) (f1++N):=
  mv.stay (C:=C) ((S.ht.perm ((List.Perm.append_left _ (((cz F.os).trans ((List.Perm.append_left _ (e.append_right _)).append_right _)).append_right _)).trans
    (pm [k.a.fr,o.pre,[D],f1,o.post,(y₁.os.set o.i []).flatten,N,k.X] (.a t0 (.a (.a (.a t1 (.a (.a t2 t3) t4)) t5) (.a t6 t7))) (.a t2 (.a (.a t3 t6) (.a t0 (.a t1 (.a t4 (.a t5 t7)))))) rfl))).sub (.append (.refl [D]) (List.sublist_append_left _ _)))
theorem ag.isL{q:M}(r:ag C y u m fp)(h:nK m=some q):∃la vs n,u=.ref la∧IsL y.h la vs n:=by
  cases m with
  |lst l=>obtain⟨a,vs,e,_,⟨n,hl⟩,_⟩:=r;exact⟨a,vs,n,e,hl⟩
  |lstM l=>obtain⟨a,vs,_,e,_,⟨n,hl⟩,_⟩:=r;exact⟨a,vs,n,e,hl⟩
  |_=>exact ns h
@[elab_as_elim] theorem rL{R:M→M→Prop}(h:jI x m=some m')(j:∀l z,x.toV=some z→(l++[z]).length≤big→R (.lst l) (.lst (l++[z]))):R m m':=by
  cases m with
  |lst l=>exact oB (o:=x.toV) h fun z hz h=>oM h fun q hq e=>e▸mS (R:=fun q=>R (.lst l) (.lst q)) hq (j l z hz)
  |_=>exact ns h
@[elab_as_elim] theorem rM{R:M→M→Prop}(h:fF x m=some m')(j1:∀l,l.length<big→R (.lst l) (.lstM (l.map .v++[x])))(j2:∀l,l.length<big→R (.lstM l) (.lstM (l++[x]))):R m m':=by
  cases m with
  |lst l=>exact oI (c:=l.length<big) h fun hl e=>Option.some.inj e▸j1 l hl
  |lstM l=>exact oI (c:=l.length<big) h fun hl e=>Option.some.inj e▸j2 l hl
  |_=>exact ns h
noncomputable abbrev psh(keep:Bool)(x:M):M→Option M:=if keep then fF x else jI x
theorem zJ{keep:Bool}{R:M→M→Prop}(h:psh keep x m=some m')(j1:∀l z,R (.lst l) (.lst z))(j2:∀l z,R (.lst l) (.lstM z))(j3:∀l z,R (.lstM l) (.lstM z)):R m m':=by
  cases keep with
  |false=>exact rL (R:=R) h fun l z _ _=>j1 l _
  |true=>exact rM (R:=R) h (fun l _=>j2 l _) fun l _=>j3 l _
theorem n9{keep:Bool}:kj (psh keep x):=⟨by cases keep<;>rfl,fun m m' h=>zJ (R:=fun _ m'=>m'≠.undef) h (fun _ _=>nofun) (fun _ _=>nofun) fun _ _=>nofun⟩
theorem xO{keep:Bool}(h:psh keep x m=some m'):∃q,nK m=some q:=zJ (R:=fun m _=>∃q,nK m=some q) h (fun _ _=>⟨_,rfl⟩) (fun _ _=>⟨_,rfl⟩) fun _ _=>⟨_,rfl⟩
theorem sS{R:Value→List Addr→M→Prop}(h:fF x m=some m')(r:ag C y u m fp)(j:∀la vs n f1 l,IsL y.h la vs n→l.length<big→aw C y vs.toList l f1→R (.ref la) (la::f1) (.lstM (l++[x]))):R u fp m':=by
  revert r
  refine rM h (fun l hl r=>?_) fun l hl r=>?_
  · obtain⟨la,vs,rfl,rfl,⟨n,hL⟩,_,rv⟩:=r
    exact j la vs n [] _ hL ((List.length_map ..).symm▸hl) rv.toM
  · obtain⟨la,vs,f1,rfl,rfl,⟨n,hL⟩,_,rv⟩:=r
    exact j la vs n f1 _ hL hl rv
noncomputable def m3(y:Y)(v:Value)(Q:Flow→Shared→Prop)(u:Value):Prop:=∃la vs n,u=.ref la∧vs.size≤sizeLine∧IsL y.h la vs n∧Q .next { y.s with heap:=y.h.update la (Obj.mapSeq fun xs=>xs.push v) }
theorem rN{keep:Bool}(F:Foc C y₁ σ₁ (psh keep x) σ' u o)(G:Go C k y y₁ σ₁ N)(rx:ag C y₁ v x N)(hq:fW C k y σ' Q .next):m3 y₁ v Q u:=by
  obtain⟨i,m,m',z,z',w,pre,fp,post⟩:=o
  have hF:=F.f
  have hR:=F.rep
  dsimp only at hF hR
  revert F hR
  cases keep with
  |false=>
    replace hF:jI x m=some m':=hF
    refine rL hF fun l z hz hl F hR=>?_
    obtain⟨la,vs,rfl,rfl,⟨n,hL⟩,hz0,rv⟩:=hR
    have G₁:=Go.freeze (N:=[]) ((List.append_nil N).symm▸G)
    have F₁:=F.stay (y':=y₁.fz N) Stay.fz rfl rfl
    have mv:=iI (y:=y₁.fz N) (la:=la) fun xs=>xs.push v
    have T:=eS F₁ G₁.st (f1:=[]) (.refl _) mv
    refine⟨la,vs,n,rfl,lW (rv.size.symm▸hz0),hL,hq _ (kr F₁ (g:=[]) (N:=[]) (rest:=[]) G₁ mv (.refl _) ⟨la,_,rfl,rfl,iJ (y:=y₁) hL _,hl,?_⟩)⟩
    show al C _ (vs.push v).toList _
    rw[Array.toList_push]
    exact(rv.stay ((Stay.fz (O:=[])).trans T)).append ⟨v,[],rfl,(rx.frz hz).stay T,rfl⟩
  |true=>
    intro F hR
    refine sS (R:=fun u fp m'=>Foc C y₁ σ₁ _ σ' u ⟨i,m,m',z,z',w,pre,fp,post⟩→m3 y₁ v Q u) hF hR (fun la vs n f1 l hL hl rs F=>?_) F
    have mv:=iI (y:=y₁) (la:=la) fun xs=>xs.push v
    have T:=eS F (k:=k) (N:=N) G.st (.refl _) mv
    refine⟨la,vs,n,rfl,lW (rs.size.symm▸Nat.le_of_lt hl),hL,hq _ (kr F (g:=N) (N:=[]) (rest:=[]) ((List.append_nil N).symm▸G) (mv.wide fun b hb=>List.mem_singleton.mp hb▸.head _) (fp':=la::(f1++N)) (.of_eq (List.append_nil _).symm) ⟨la,_,_,rfl,rfl,iJ hL _,?_,?_⟩)⟩
    · rw[List.length_append];exact hl
    · show aw C _ (vs.push v).toList _ _
      rw[Array.toList_push,←List.append_nil N]
      exact(rs.stay (T.sub fun b hb=>List.mem_append_left _ hb)).append (aw.cons (rx.stay (T.sub fun b hb=>List.mem_append_right _ hb)) ⟨rfl,rfl⟩)
end
end Mine.Internal
end
section
namespace Mine.Internal
open PySem PySem.W PySem.Calls PyProof.Rows
section
variable {C:Cx} {Φ:Phi} {d:Nat} {k:Kx} {y y' y₁:Y} {σ σ' σ₁:List M} {N fp:List Addr} {u v:Value} {m m' x:M} {o:Spot} {g:M→Option M} {Q:Flow→Shared→Prop} {G:Tab} {fl:Fl}
theorem Br{p:E}{f:M→Option M}{R:E→Prop}(h:bD G Φ p f σ=some σ')(j1:∀i,R (.var i))(j2:∀r n,R (.attr r n))(j3:∀r i,R (.sub r i)):R p:=by
  cases p with
  |var i=>exact j1 i
  |attr r n=>exact j2 r n
  |sub r i=>exact j3 r i
  |_=>exact ns h
theorem rO{p:E}(h:p.isVar=true):∃i,p=.var i:=by
  cases p with
  |var i=>exact⟨i,rfl⟩
  |_=>exact absurd h Bool.false_ne_true
theorem gj{p:E}{f:M→Option M}{o:PySem.Expr}{io:String→List Bool}{x:Sx}(h:bD G Φ p f σ=some σ'):af io x p o=true→a_ o=false:=
  Br (R:=fun p=>af io x p o=true→a_ o=false) h (fun i hc=>iD (R:=fun o=>a_ o=false) hc fun _ _ _=>rfl) (fun r n hc=>jt (R:=fun o=>a_ o=false) hc fun _ _ _ _ _=>rfl) fun r i hc=>mN (R:=fun o=>a_ o=false) hc fun _ _ _ _ _=>rfl
theorem es1{e:E}{p:PySem.Expr}{io:String→List Bool}{x:Sx}(h:af io x e p=true):a0 io x [e] [p]=true:=by
  show(af io x e p&&true)=true
  rw[h];rfl
@[elab_as_elim] theorem nx{R:Fl→List M→Prop}{τ:List M}(h:(Fl.next,τ)=(fl,σ'))(j:R .next τ):R fl σ':=by cases h;exact j
@[elab_as_elim] theorem Bs{p e:E}{keep:Bool}{R:Fl→List M→Prop}(h:ex G Φ (.app p e keep) σ=some (fl,σ'))(j1:∀x σ₁ σ',ev G Φ e σ=some (x,σ₁)→ga e x=true→e.calm G.io=true→bD G Φ p (psh keep x) σ=some σ'→R .next σ')
    (j2:∀x σ₁ σ' i σ₀,p=.var i→ev G Φ e σ=some (x,σ₁)→ga e x=true→bD G Φ (.var i) nK σ=some σ₀→bD G Φ (.var i) (psh keep x) σ₁=some σ'→R .next σ'):R fl σ':=
  oP h fun x σ₁ h1 h=>oI h fun hok h=>by
    have h:(if e.calm G.io=true then(bD G Φ p (psh keep x) σ).map fun σ=>(Fl.next,σ)else if(p.isVar&&(bD G Φ p nK σ).isSome)=true then(bD G Φ p (psh keep x) σ₁).map fun σ=>(Fl.next,σ)else none)=some (fl,σ'):=h
    by_cases hc:e.calm G.io=true
    · rw[if_pos hc]at h
      exact oM h fun τ hu e=>nx e (j1 x σ₁ τ h1 hok hc hu)
    · rw[if_neg hc]at h
      refine oI h fun hv h=>oM h fun τ hu e=>nx e ?_
      obtain⟨hv,hs⟩:=a2_ hv
      obtain⟨σ₀,h0⟩:=Option.isSome_iff_exists.mp hs
      obtain⟨i,rfl⟩:=rO hv
      exact j2 x σ₁ τ i σ₀ rfl h1 hok h0 hu
theorem Bt{a:Act}{i:Nat}{n:ae}(hv:a.sx.isVar i n=true)(hcs:a.cs=none):i<a.n1:=by
  obtain⟨_,_,_,q⟩:=Sx.isVar_spec hv
  refine q.elim And.right fun q=>?_
  have:=q.2
  unfold Act.reads at this
  rwa[hcs]at this
theorem m3.at_{la:Addr}(h:m3 y v Q (.ref la)):∃vs n,vs.size≤sizeLine∧IsL y.h la vs n∧Q .next { y.s with heap:=y.h.update la (Obj.mapSeq fun xs=>xs.push v) }:=by
  obtain⟨_,vs,n,e,h⟩:=h
  cases e
  exact⟨vs,n,h⟩
theorem oa{a:PySem.Expr}{e:E}{z:Pos}{q:M}{pl:Sem Bool}{io:String→List Bool}{x:Sx}(hc:af io x e a=true)(r:ag C y₁ u m fp)(h:nK m=some q)(j:∀la,u=.ref la→W C k (eval a k.a.env) (fun v s=>∃vs n,vs.size≤sizeLine∧IsL s.heap la vs n∧Q .next { s with heap:=s.heap.update la (Obj.mapSeq fun xs=>xs.push v) }) y₁.s):
    W C k (getMethod u "append" pl) (fun fx s₂=>W C k (callWith z fx.1 fx.2 (backTo z (starEach [a] k.a.env)) []) (fun _=>Q .next) s₂) y₁.s:=by
  obtain⟨la,vs,n,rfl,hl⟩:=r.isL h
  refine getMethod_list_append hl rfl rfl ?_
  rw[aH (bw hc)]
  exact P.append_list (j la rfl)
theorem Bu{p e:E}{keep:Bool}(S₁:SR C Φ d p)(S₂:SE C Φ d e):SS C Φ d (.app p e keep):=fun{k y σ st fl σ' Q} S hcs hB hc he=>Ax hc fun oo ap a z z' hline hc1 hc2=>by
  refine Bs he (fun x σ₁ σ' h1 hok hcal hu hq=>?_) fun x σ₁ σ' i σ₀ hp h1 hok hu0 hu hq=>?_
  · refine wpAny_Expr_any (dQ (gj hu hc1) (dN (es1 hc2)) (Nat.le_add_left 1 9) hline (S₁ n9 S hB hc1 hu fun u y₁ o R F pl=>?_)) (dS k) rfl
    obtain⟨q,hq1⟩:=xO F.f
    refine oa hc2 F.rep hq1 fun la e=>S₂ (k:=k.on []) R.st hB hc2 h1 fun v y₂ N R₂ r=>?_
    rw[hcal]at R₂
    obtain⟨rfl,hρ,hos⟩:=R₂.calm rfl
    subst e
    exact(rN (F.stay R₂.mv.stay0 hρ hos) (List.append_nil N▸(R.trans R₂).go) (r.own hok) hq).at_
  · subst hp
    revert hline
    refine iD hc1 fun n np hv hline=>?_
    refine gV (R:=fun _=>_) hu0 fun m0 m0' hm0 hne0 hc0=>?_
    refine wpAny_Expr_any (dQ rfl (dN (es1 hc2)) (Nat.le_add_left 1 9) hline (wpAny_Name (eP S hv hm0 hne0 fun xx u fp0 L pl=>?_) (Sx.isVar_dbg hv))) (dS k) rfl
    refine oa hc2 L.rep hc0 fun la e=>S₂ S hB hc2 h1 fun v y₂ N R₂ r=>?_
    refine gV (R:=fun σ'=>fW C k y σ' Q .next→_) hu (fun m1 m1' hm1 hne1 hp1 hq=>?_) hq
    obtain⟨x2,u2,fp2,L₂⟩:=R₂.st.vars.at_ i m1 hm1 hne1
    obtain rfl:=Option.some.inj (L₂.ρ.symm.trans ((R₂.rho i (Bt hv hcs)).trans L.ρ))
    subst e
    exact(rN (kl L₂ hm1 hne1 hp1 (n9.2 _ _ hp1)) R₂.go (r.own hok) hq).at_
@[elab_as_elim] theorem m5{l l':List V}{R:Value→Prop}(F:Foc C y₁ σ₁ g σ' u o)(e:o.m=.lst l)(e':o.m'=.lst l')(hz:l'.length≤big)(G:Go C k y y₁ σ₁ N)
    (j:∀la vs n,IsL y₁.h la vs n→vs.size=l.length→l.length≤big→al C y₁ vs.toList l→(∀T:Array Value→Array Value,al C y₁ (T vs).toList l'→∃y',y'.s={ y₁.s with heap:=y₁.h.update la (Obj.mapSeq T) }∧Go C k y y' σ' N∧Stay y₁ y' N)→R (.ref la)):R u:=by
  obtain⟨i,m,m',z,z',w,pre,fp,post⟩:=o
  dsimp only at e e'
  subst e e'
  obtain⟨la,vs,rfl,rfl,⟨n,hL⟩,hz0,rv⟩:=F.rep
  refine j la vs n hL rv.size hz0 rv fun T rg=>?_
  have mv:=iI (y:=y₁) (la:=la) T
  have S:=eS F G.st (f1:=[]) (.refl _) mv
  exact⟨_,rfl,kr F (g:=[]) (rest:=[]) G mv (.refl _) ⟨la,_,rfl,rfl,iJ hL T,hz,rg.stay S.nil⟩,S.trans (.up rfl fun _ h=>h)⟩
theorem kt{la:Addr}{vs:Array Value}{n:Nat}{s:Shared}{name:ae}{id:String}{pl:Sem Bool}{Q:Value×List Value→Shared→Prop}(slot:PySem.Slot "list" name id)(hty:typeOf (.builtin id)=pure (.type "method_descriptor"))(hl:IsL s.heap la vs n)
    (h:Q (.builtin id,[.ref la]) s):W C k (getMethod (.ref la) name pl) Q s:=getMethod_list_of slot hty ⟨_,hl,rfl,n,rfl⟩ ⟨_,hl,rfl⟩ h
@[elab_as_elim] theorem u9{R:M→M→Prop}(h:pA x m=some m')(j:∀l q,x.list?=some q→(l++q).length≤big→R (.lst l) (.lst (l++q))):R m m':=by
  cases m with
  |lst l=>exact oB (o:=x.list?) h fun z hz h=>oM h fun q hq e=>e▸mS (R:=fun q=>R (.lst l) (.lst q)) hq (j l z hz)
  |_=>exact ns h
theorem u_:kj (pA x):=⟨rfl,fun m m' h=>u9 (R:=fun _ m'=>m'≠.undef) h fun _ _ _ _=>nofun⟩
@[elab_as_elim] theorem Bv{p e:E}{R:Fl→List M→Prop}(h:ex G Φ (.ext p e) σ=some (fl,σ'))(j:∀x σ₁ σ',e.calm G.io=true→ev G Φ e σ=some (x,σ₁)→bD G Φ p (pA x) σ=some σ'→R .next σ'):R fl σ':=
  oI h fun hc h=>oP h fun x σ₁ h1 h=>oM h fun τ hu e=>nx e (j x σ₁ τ hc h1 hu)
theorem vc{n m:Nat}{b:Bool}(h:n+m≤1048576):¬(b&&Builtin.List.listTooLong (n+m))=true:=fun q=>by
  have:=(a2_ q).2
  simp only[Builtin.List.listTooLong,decide_eq_true_eq]at this
  exact absurd (Nat.le_trans this h) (by decide)
theorem ag.lst_at{l:List V}(r:ag C y u (.lst l) fp):∃la vs n,u=.ref la∧IsL y.h la vs n:=by
  obtain⟨la,vs,rfl,_,⟨n,hl⟩,_⟩:=r;exact⟨la,vs,n,rfl,hl⟩
noncomputable def vd(y:Y)(la:Addr)(Q:Flow→Shared→Prop)(v:Value):Prop:=∃b items items2 n n2,items.size≤sizeLine∧items.size+items2.size≤sizeLine+1∧¬(!items.isEmpty&&Builtin.List.listTooLong (items.size+items2.size))=true∧v=.ref b∧IsL y.h la items n∧IsL y.h b items2 n2∧Q .next { y.s with heap:=y.h.update la (Obj.mapSeq fun xs=>xs++items2) }
theorem Bw{p e:E}(S₁:SR C Φ d p)(S₂:SE C Φ d e):SS C Φ d (.ext p e):=fun{k y σ st fl σ' Q} S hcs hB hc he=>Ay hc fun oo ap a z z' hline hc1 hc2=>Bv he fun x σ₁ σ' hcal h1 hu hq=>by
  refine wpAny_Expr_any (dQ (gj hu hc1) (dN (es1 hc2)) (Nat.le_add_left 1 9) hline (S₁ u_ S hB hc1 hu fun u y₁ o R F pl=>?_)) (dS k) rfl
  obtain⟨l,q,hl,hz,e,e'⟩:∃l q,x.list?=some q∧(l++q).length≤big∧o.m=.lst l∧o.m'=.lst (l++q):=u9 (R:=fun m m'=>∃l q,x.list?=some q∧(l++q).length≤big∧m=.lst l∧m'=.lst (l++q)) F.f fun l q h1 h2=>⟨l,q,h1,h2,rfl,rfl⟩
  obtain⟨la,vs0,n0,rfl,hl0⟩:=ag.lst_at (e▸F.rep)
  refine kt (k:=k) PySem.F.slot_list_extend PySem.F.type_list_extend hl0 ?_
  rw[aH (bw hc2)]
  refine P.extend_list (S₂ (k:=k.on []) R.st hB hc2 h1 fun v y₂ N R₂ r=>?_)
  rw[hcal]at R₂
  obtain⟨rfl,hρ,hos⟩:=R₂.calm rfl
  refine r.list (R:=vd y₂ la Q) hl fun b vs2 ⟨n2,hb⟩ hz2 rv2=>?_
  have F₂:=F.stay R₂.mv.stay0 hρ hos
  refine m5 (R:=fun u=>u=.ref la→vd y₂ la Q (.ref b)) F₂ e e' hz (R.trans R₂).drop0.go (fun la' vs n hL hlen hz0 rv fin e=>?_) rfl
  cases e
  obtain⟨y',hs,G',_⟩:=fin (fun xs=>xs++vs2) (by rw[Array.toList_append];exact rv.append rv2)
  have h3:l.length+q.length≤1048576:=by rw[←List.length_append];exact hz
  rw[←hlen,←rv2.size]at h3
  exact⟨b,vs,vs2,n,n2,lW (hlen▸hz0),Nat.le_trans h3 (by decide),vc h3,rfl,hL,hb,hs▸hq y' G'⟩
theorem al.dropLast{l:List V}:∀{us:List Value},al C y us l→al C y us.dropLast l.dropLast:=by
  induction l with
  |nil=>intro us r;rw[show us=[]from r];rfl
  |cons a r ih=>
    intro us q
    cases r with
    |nil=>exact q.cons_e (R:=fun us=>al C y us.dropLast []) fun u ws _ h2=>by rw[show ws=[]from h2];rfl
    |cons b r=>exact q.cons_e (R:=fun us=>al C y us.dropLast (a::(b::r).dropLast)) fun u ws h1 h2=>h2.cons_e (R:=fun ws=>al C y ws.dropLast (b::r).dropLast→al C y (u::ws).dropLast (a::(b::r).dropLast)) (fun u' ws' _ _ h=>⟨u,_,rfl,h1,h⟩) (ih h2)
@[elab_as_elim] theorem ve{R:M→M→Prop}(h:sA m=some m')(j:∀a l,R (.lst (a::l)) (.lst (a::l).dropLast)):R m m':=by
  cases m with
  |lst l=>cases l with
    |nil=>exact ns h
    |cons a l=>exact Option.some.inj h▸j a l
  |_=>exact ns h
theorem vf:kj sA:=⟨rfl,fun m m' h=>ve (R:=fun _ m'=>m'≠.undef) h fun _ _=>nofun⟩
@[elab_as_elim] theorem Bx{p:E}{R:Fl→List M→Prop}(h:ex G Φ (.pop p) σ=some (fl,σ'))(j:∀σ',bD G Φ p sA σ=some σ'→R .next σ'):R fl σ':=oM h fun τ hu e=>nx e (j τ hu)
theorem pR{vs:Array Value}(h:0<vs.size):(vs.eraseIdxIfInBounds (vs.size-1)).toList=vs.toList.dropLast:=by
  unfold Array.eraseIdxIfInBounds
  rw[dif_pos (Nat.sub_lt h Nat.one_pos),Array.toList_eraseIdx,List.dropLast_eq_take,List.eraseIdx_eq_take_drop_succ]
  simp;(exact Nat.le_of_lt_succ (by trivial))
theorem By{p:E}(S₁:SR C Φ d p):SS C Φ d (.pop p):=fun{k y σ st fl σ' Q} S hcs hB hc he=>Az hc fun oo ap z z' hline hc1=>Bx he fun σ' hu hq=>by
  refine wpAny_Expr_any (dQ (gj hu hc1) rfl (Nat.zero_le _) hline (S₁ vf S hB hc1 hu fun u y₁ o R F pl=>?_)) (dS k) rfl
  obtain⟨a,l,e,e'⟩:∃a l,o.m=.lst (a::l)∧o.m'=.lst (a::l).dropLast:=ve (R:=fun m m'=>∃a l,m=.lst (a::l)∧m'=.lst (a::l).dropLast) F.f fun a l=>⟨a,l,rfl,rfl⟩
  have hz:(a::l).length≤big:=by
    have:=F.rep
    rw[e]at this
    exact this.elim fun _ h=>h.elim fun _ h=>h.2.2.2.1
  refine m5 F e e' (by rw[List.length_dropLast];exact Nat.le_trans (Nat.sub_le _ _) hz) R.go fun la vs n hL hlen hz0 rv fin=>?_
  have hp:0<vs.size:=hlen▸Nat.succ_pos _
  refine kt PySem.F.slot_list_pop PySem.F.type_list_pop hL (P.pop_list hL (y:=vs[vs.size-1]) (Array.getElem?_eq_getElem _) ?_ (lW (hlen▸hz0)))
  obtain⟨y',hs,G',_⟩:=fin (fun xs=>xs.eraseIdxIfInBounds (vs.size-1)) (by show al C y₁ (vs.eraseIdxIfInBounds (vs.size-1)).toList _;rw[pR hp];exact rv.dropLast)
  exact hs▸hq y' G'
end
end Mine.Internal
end
section
namespace Mine.Internal
open PySem PySem.W PySem.Calls PyProof.Rows
noncomputable def SST(C:Cx)(Φ:Phi)(d:Nat)(t:T):Prop:=∀{k:Kx} {y y₁:Y} {σ₁ σ₂:List M} {p:PySem.Expr} {m:M} {v:Value} {f N:List Addr} {Q:Unit→Shared→Prop},
  Bud k.A d→gM C.G.io k.a.sx t p=true→store C.G Φ t m σ₁=some σ₂→Go C k y y₁ σ₁ (f++N)→ag C y₁ v m f→(∀y₂,Go C k y y₂ σ₂ N→Stay y₁ y₂ N→Q () y₂.s)→W C k (assign p k.a.env v) Q y₁.s
noncomputable def vg(C:Cx)(Φ:Phi)(d:Nat)(l:List T):Prop:=∀{k:Kx} {y y₁:Y} {σ₁ σ₂:List M} {ps:List PySem.Expr} {ms:List M} {vs:List Value} {f N:List Addr} {Q:Unit→Shared→Prop},
  Bud k.A d→ej C.G.io k.a.sx l ps=true→stores C.G Φ l ms σ₁=some σ₂→Go C k y y₁ σ₁ (f++N)→aw C y₁ vs ms f→(∀y₂,Go C k y y₂ σ₂ N→Stay y₁ y₂ N→Q () y₂.s)→W C k (assignInOrder ((assignEach ps k.a.env).map (·.2)) vs) Q y₁.s
section
variable {C:Cx} {Φ:Phi} {d:Nat} {k:Kx} {y y' y₁ y₂:Y} {σ σ' σ₁:List M} {N f:List Addr} {u v:Value} {m m' x:M} {G:Tab}
theorem iK{x:Sx}{io:String→List Bool}{t:T}{p:PySem.Expr}(h:gM io x t p=true):∀v q,p≠.Starred v q:=by
  intro v q e';subst e'
  cases t<;>exact absurd h Bool.false_ne_true
theorem bh{p:PySem.Expr}{q:List PySem.Expr}{env:Env}(h:∀v z,p≠.Starred v z):assignEach (p::q) env=(false,assign p env)::assignEach q env:=by
  cases p<;>first|rfl|exact absurd rfl (h _ _)
theorem Go.tail{D:Addr}(G:Go C k y y₁ σ₁ (f++N))(mv:Mv y₁ y₂ [D])(hD:D∈k.a.fr):Stay y₁ y₂ N:=
  Mv.stay (C:=C) (mv.wide fun b hb=>List.mem_singleton.mp hb▸hD) (G.st.ht.sub (.append (.refl k.a.fr) (((List.sublist_append_right f N).trans (List.sublist_append_left _ k.X)).trans (List.sublist_append_right _ _))))
@[elab_as_elim] theorem Bz{i:Nat}{keep:Bool}{R:List M→Prop}(h:store G Φ (.var i keep) m σ=some σ')(j1:i<σ.length→R (σ.set i m))(j2:∀x,i<σ.length→m.toV=some x→R (σ.set i (.v x))):R σ':=
  oI h fun hi h=>by
    cases keep with
    |true=>exact Option.some.inj h▸j1 hi
    |false=>exact oM (o:=dG m) h fun _ h e=>oM h fun x hx e'=>e▸e'▸j2 x hi hx
theorem ob{i:Nat}{keep:Bool}{n:ae}{Q:Unit→Shared→Prop}(hs:k.a.sx.isSt i n=true)(he:store G Φ (.var i keep) m σ₁=some σ')(H:Go C k y y₁ σ₁ (f++N))(r:ag C y₁ v m f):(∀y₂,Go C k y y₂ σ' N→Stay y₁ y₂ N→Q () y₂.s)→W C k (storeName k.a.env n v) Q y₁.s:=Bz he
  (fun hi hq=>c7 hs H r hi fun s₂ D hD _ G₂ mv=>hq _ G₂ (H.tail (mv.from rfl rfl) hD))
  fun x hi hx hq=>c7 (y₁:=y₁.fz f) (m:=.v x) (f:=[]) hs H.freeze ⟨rfl,r.frz hx⟩ hi fun s₂ D hD _ G₂ mv=>hq _ G₂ (Stay.fz.trans (Go.tail (y₁:=y₁.fz f) (f:=[]) H.freeze (mv.from rfl rfl) hD))
theorem xP(i:Nat)(keep:Bool):SST C Φ d (.var i keep):=fun hB hc he G r hq=>rc hc fun n z hs=>wpAny_assign_Name (ob hs he G r hq)
@[elab_as_elim] theorem lX{ms:List M}{R:List M→List M→Prop}(h:stores G Φ [] ms σ=some σ')(j:R [] σ):R ms σ':=by
  cases ms with
  |nil=>exact Option.some.inj h▸j
  |cons m q=>exact ns h
@[elab_as_elim] theorem lY{t:T}{r:List T}{ms:List M}{R:List M→Prop}(h:stores G Φ (t::r) ms σ=some σ')(j:∀m q σ₁,store G Φ t m σ=some σ₁→stores G Φ r q σ₁=some σ'→R (m::q)):R ms:=by
  cases ms with
  |nil=>exact ns h
  |cons m q=>exact oB h fun σ₁ h1 h2=>j m q σ₁ h1 h2
theorem vh:vg C Φ d []:=fun hB hc he=>lX he fun G r hq=>by
  obtain⟨rfl,rfl⟩:=r
  exact ur hc (wpAny_assignInOrder_none (hq _ G (.up rfl fun _ h=>h)))
theorem sT{t:T}{l:List T}(S₁:SST C Φ d t)(S₂:vg C Φ d l):vg C Φ d (t::l):=fun{k y y₁ σ₁ σ₂ ps ms vs f N Q} hB hc he=>lY he fun m q σ₃ h1 h2 G r hq=>pG hc fun p ps hc1 hc2=>by
  obtain⟨u,ws,f1,f2,rfl,rfl,r1,r2⟩:=r
  rw[bh (iK hc1)]
  rw[List.append_assoc]at G
  exact wpAny_assignInOrder_more (S₁ hB hc1 h1 G r1 fun y₂ G₂ T=>S₂ hB hc2 h2 G₂ (r2.stay (T.sub fun b hb=>List.mem_append_left _ hb)) fun y₃ G₃ T'=>hq y₃ G₃ ((T.sub fun b hb=>List.mem_append_right _ hb).trans T'))
theorem vj{x:Sx}{io:String→List Bool}{env:Env}{l:List T}:∀{ps:List PySem.Expr},ej io x l ps=true→(assignEach ps env).length=l.length∧(assignEach ps env).findIdx? (·.1)=none:=by
  induction l with
  |nil=>intro ps h;exact ur h ⟨rfl,rfl⟩
  |cons t l ih=>
    intro ps h
    refine pG h fun p q h1 h2=>?_
    obtain⟨e1,e2⟩:=ih h2
    rw[bh (iK h1)]
    exact⟨congrArg Nat.succ e1,by rw[List.findIdx?_cons,e2];rfl⟩
theorem ku{l:List T}:∀{ms:List M} {σ σ':List M},stores G Φ l ms σ=some σ'→l.length=ms.length:=by
  induction l with
  |nil=>intro ms σ σ' h;exact lX (R:=fun ms _=>0=ms.length) h rfl
  |cons t l ih=>intro ms σ σ' h;exact lY (R:=fun ms=>l.length+1=ms.length) h fun m q σ₁ _ h2=>congrArg Nat.succ (ih h2)
theorem rP{l:List M}(e:m.unp?=some l):m.seq?=some l:=by
  cases m with
  |v x=>cases x<;>first|exact e|exact ns e
  |tup l=>exact e
  |_=>exact ns e
theorem xQ{l:List T}(S₁:vg C Φ d l):SST C Φ d (.tup l):=fun{k y y₁ σ₁ σ₂ p m v f N Q} hB hc he G r hq=>rd hc fun es q z _ hc=>oB he fun ms hm he=>by
  obtain⟨h1,h2⟩:=vj (env:=k.a.env) hc
  rw[arm_assign_Tuple]
  refine r.seq (R:=fun v=>W C k (do standAt z;unpack v (assignEach es k.a.env)) Q y₁.s) (rP hm) fun a vs g hh _ rs hg=>?_
  refine wpAny_bind (wpAny_standAt (kg hB.handled hh (h1.trans ((ku he).trans rs.size.symm)) h2 fun h' hk=>?_))
  have mv:Mv y₁ (y₁.to { y₁.s with heap:=h' }) []:=bI (t:=y₁.s.toks) hk
  exact S₁ (y₁:=y₁.to { y₁.s with heap:=h' }) hB hc he ((G.still mv).drop (.append hg (.refl _))) (rs.stay mv.stay0) fun y₂ G₂ T=>hq y₂ G₂ (mv.stay0.trans T)
end
end Mine.Internal
end
section
namespace Mine.Internal
open PySem PySem.W PySem.Calls PyProof.Rows
section
variable {C:Cx} {y y':Y} {kvs:List (ae×Value)} {fs:List (String×M)} {fp fm:List Addr} {v:Value} {m:M} {t:String}
noncomputable def stK(k:ae)(v:Value):List (ae×Value)→List (ae×Value)
  |[]=>[(k,v)]
  |(n,x)::r=>if n=k then(n,v)::r else(n,x)::stK k v r
theorem zK(k n:ae)(v x:Value)(r:List (ae×Value)):stK k v ((n,x)::r)=if n=k then(n,v)::r else(n,x)::stK k v r:=rfl
theorem sU{k:ae}{v:Value}{kvs:List (ae×Value)}(h:(kvs.map (·.1)).Nodup):stored kvs k v=stK k v kvs:=by
  induction kvs with
  |nil=>rfl
  |cons p r ih=>
    obtain⟨n,x⟩:=p
    obtain⟨h1,h2⟩:=List.nodup_cons.mp (show(n::r.map (·.1)).Nodup from h)
    have ih:=ih h2
    by_cases hn:n=k
    · subst hn
      have hr:r.map (fun kv=>if kv.1=n then(kv.1,v)else kv)=r:=by
        conv=>rhs;rw[←List.map_id r]
        exact List.map_congr_left fun kv hkv=>if_neg fun e=>h1 (List.mem_map.mpr ⟨kv,hkv,e⟩)
      simp[stored,zK,hr]
    · unfold stored at ih ⊢
      simp only[zK,if_neg hn,List.any_cons,hn,decide_false,Bool.false_or,List.map_cons,if_false]
      rw[←ih]
      split<;>rfl
theorem oe:∀{kvs:List (ae×Value)} {fp:List Addr},az C y kvs fs fp→∃f' rest,(fp++fm).Perm (f'++rest)∧∀{y':Y},Stay y y' fp→ag C y' v m fm→az C y' (stK (Str.ofString t) v kvs) (jm fs t m) f':=by
  induction fs with
  |nil=>exact fun r=>r.nil_e (R:=fun kvs fp=>∃f' rest,(fp++fm).Perm (f'++rest)∧∀{y':Y},Stay y y' fp→ag C y' v m fm→az C y' (stK (Str.ofString t) v kvs) (jm [] t m) f') ⟨fm++[],[],.of_eq ((List.append_nil _).trans (List.append_nil _)).symm,fun _ r=>az.cons r ⟨rfl,rfl⟩⟩
  |cons p l ih=>
    obtain⟨n,x⟩:=p
    intro kvs fp r
    refine r.cons_e fun u ws f g h1 h2=>?_
    by_cases hn:n=t
    · subst hn
      refine⟨fm++g,f,pm [f,g,fm] (.a (.a t0 t1) t2) (.a (.a t2 t1) t0) rfl,fun{y'} T r'=>?_⟩
      show az C y' (if Str.ofString n=Str.ofString n then _ else _) (if n=n then _ else _) _
      rw[if_pos rfl,if_pos rfl]
      exact az.cons r' (h2.stay (T.sub fun b hb=>List.mem_append_right _ hb))
    · obtain⟨f',rest,hp,hk⟩:=ih h2
      refine⟨f++f',rest,by rw[List.append_assoc,List.append_assoc];exact hp.append_left f,fun{y'} T r'=>?_⟩
      show az C y' (if Str.ofString n=Str.ofString t then _ else _) (if n=t then _ else _) _
      rw[if_neg (fun e=>hn (bB e)),if_neg hn]
      exact az.cons (h1.stay (T.sub fun b hb=>List.mem_append_left _ hb)) (hk (T.sub fun b hb=>List.mem_append_right _ hb) r')
theorem al.set{l:List V}{x:V}:∀{us:List Value} {j:Nat},al C y us l→aV C y v x→al C y (us.set j v) (l.set j x):=by
  induction l with
  |nil=>intro us j r _;rw[show us=[]from r];rfl
  |cons a l ih=>
    intro us j r rx
    refine r.cons_e fun u ws h1 h2=>?_
    cases j with
    |zero=>exact⟨v,ws,rfl,rx,h2⟩
    |succ j=>exact⟨u,_,rfl,h1,ih h2 rx⟩
theorem Ent.length{es:List DictEntry}(h:Ent es kvs):es.length=kvs.length:=(List.length_map ..).symm.trans ((congrArg List.length h).trans (List.length_map ..))
theorem Ent.put{n:ae}{hsh:Int}{tk:Tok}{es:List DictEntry}:∀{kvs:List (ae×Value)},Ent es kvs→Ent (putL n hsh (.str n tk) v es) (stK n v kvs)∧(putL n hsh (.str n tk) v es).length≤es.length+1:=by
  induction es with
  |nil=>exact fun h=>h.nil_e (R:=fun kvs=>Ent _ (stK n v kvs)∧_) ⟨rfl,Nat.le_refl _⟩
  |cons e r ih=>
    intro kvs h
    refine h.cons_e (R:=fun kvs=>Ent _ (stK n v kvs)∧_) fun n' t r' hk hr=>?_
    show Ent (if e.key.isStr n=true then _ else _) (if n'=n then _ else _)∧(if e.key.isStr n=true then _ else _:List DictEntry).length≤_
    rw[hk]
    by_cases hn:n'=n
    · subst hn
      rw[if_pos (show Value.isStr (.str n' t) n'=true from beq_self_eq_true n'),if_pos rfl]
      exact⟨congrArg (List.cons (some n',v)) hr,Nat.le_succ _⟩
    · rw[if_neg (show¬Value.isStr (.str n' t) n=true from fun q=>hn (beq_iff_eq.mp q)),if_neg hn]
      obtain⟨h1,h2⟩:=ih hr
      exact⟨(show(mJ e.key,e.val)::_=(some n',e.val)::_ from by rw[hk];exact congrArg _ h1),Nat.succ_le_succ h2⟩
theorem xR{prog:Program}{w:World}{A:Around}{R:Result→Shared→Prop}{s:Shared}{K:Frag}{x Cl dd:Addr}{es:List DictEntry}{n:Nat}{name:ae}{tk:Tok}{v:Value}(X:K.In s.heap)
    (I:InstAt s.heap x (instObj Cl dd) Cl (some (dictOf es n)))(hp:plainOver K Cl=true)(ht:takerIn K Cl name=some none)(hh:hasDictIn K Cl=true)
    (hl:(getL name es).isSome=true)(hz:(putL name (PyData.keyHash w.params name) (.str name s.toks) v es).length≤1000)
    (h:R (.ok (.ret .none)) { s with heap:=s.heap.update dd (Obj.putName name (PyData.keyHash w.params name) (.str name s.toks) v),toks:=s.toks+1 }):
    codeAny (model prog w) A (.call (.builtin "object.__setattr__") ⟨[.ref x,.str name tk,v],[]⟩) R s:=by
  refine osa_open X I hp ht fun b=>?_
  obtain⟨cd,hc,hd'⟩:=any_some hh
  obtain⟨hx,hcl,hn,D⟩:=I
  have D':(s.heap.update dd (Obj.putName name (PyData.keyHash w.params name) (.str name s.toks) v)).get? dd=some (dictOf (putL name (PyData.keyHash w.params name) (.str name s.toks) v es) (putN name es n)):=by
    rw[←putName_dict]
    exact Heap.get?_update_self _ D (by rw[putName_dict];rfl)
  refine wpAny_bind (wpAny_pure (wpAny_bind (wpAny_bind (wpAny_loadPart hx (wpAny_bind ((looks_clsIn X hc).here ?_))))))
  rw[hd']
  refine wpAny_pure (a:=some dd) (wpAny_bind (wpAny_pure (wpAny_bind ?_)))
  unfold nsSet
  refine wpAny_bind (wpAny_bind (wpAny_askSetting (wpAny_pure (wpAny_bind (wpAny_mkText (wpAny_bind (wpAny_loadPart D ?_)))))))
  dsimp only
  have c:(!es.toArray.any (·.key.isStr name)&&es.toArray.any (·.refKey))=false:=by
    rw[←Array.any_toList,←Array.any_toList]
    unfold getL at hl
    split at hl
    · rename_i en he
      rw[List.any_eq_true.mpr ⟨en,List.mem_of_find?_eq_some he,List.find?_some he⟩];rfl
    · split at hl
      · cases hl
      · rename_i z
        rw[Bool.eq_false_iff.mpr z];exact Bool.and_false _
  rw[aRefKeyMayBeTheName_at,c]
  refine wpAny_updatePart D ?_
  refine wpAny_bind (wpAny_lookBehind D' (pastItsLine_dict (by rw[List.size_toArray,sizeLine_eq];exact Nat.le_trans hz (by decide))) ?_)
  exact wpAny_pure h
end
end Mine.Internal
end
section
namespace Mine.Internal
open PySem PySem.W PySem.Calls PyProof.Rows
section
variable {C:Cx} {Φ:Phi} {d:Nat} {k:Kx} {y y' y₁ y₂:Y} {σ σ' σ₁:List M} {N f:List Addr} {u v:Value} {m m' x:M} {G:Tab}
@[elab_as_elim] theorem vk{km:M}{R:M→M→M→Prop}(h:lh km m x=some m')(j1:∀l i q z,ix i l.length=some q→m.toV=some z→R (.v (.int i)) (.lst l) (.lst (l.set q z)))(j2:∀fs s,fs.length≤big→R (.v (.str s)) (.dct fs) (.dct (jm fs s m))):R km x m':=by
  cases x with
  |lst l=>
    cases km with
    |v z=>
      cases z with
      |int i=>exact oB (o:=ix i l.length) h fun q hq h=>oM h fun z hz e=>e▸j1 l i q z hq hz
      |_=>exact ns h
    |_=>exact ns h
  |dct fs=>
    cases km with
    |v z=>
      cases z with
      |str s=>exact oI (c:=fs.length≤big) h fun hl e=>Option.some.inj e▸j2 fs s hl
      |_=>exact ns h
    |_=>exact ns h
  |_=>exact ns h
theorem sV{km:M}:kj (lh km m):=⟨rfl,fun x m' h=>vk (R:=fun _ _ m'=>m'≠.undef) h (fun _ _ _ _ _ _=>nofun) fun _ _ _=>nofun⟩
theorem BA{o i:E}{R:Prop}(h:store G Φ (.sub o i) m σ=some σ')(j:∀km σ₃,i.calm G.io=true→ev G Φ i σ=some (km,σ₃)→bD G Φ o (lh km m) σ=some σ'→R):R:=
  oI h fun hc h=>oP h fun km σ₃ hk h=>j km σ₃ hc hk h
theorem zL{D:Addr}{l:List Addr}(mv:Mv y y' [D])(h:D∈l):Mv y y' l:=mv.wide fun _ hb=>List.mem_singleton.mp hb▸h
theorem og{la n:Nat}{vs:Array Value}{i:Int}{q:Nat}{tk:Tok}{Q:Unit→Shared→Prop}(hl:IsL y.h la vs n)(hb:vs.size≤big)(hq:ix i vs.size=some q)(h:Q () { y.s with heap:=y.h.update la (Obj.mapSeq (·.setIfInBounds q v)) }):
    W C k (setItem (.ref la) (.int i tk) v) Q y.s:=by
  revert h
  refine Df (R:=fun q=>Q () { y.s with heap:=y.h.update la (Obj.mapSeq (·.setIfInBounds q v)) }→_) hq (fun h0 h1 h=>?_) fun h0 h1 h=>?_
  · exact ki_setAt hl h0 (uL h1 hb) h1 h
  · exact ki_setBack hl h0 (uK h1) (pL h1 hb) h
theorem xS{o i:E}(S₁:SR C Φ d o)(S₂:SE C Φ d i):SST C Φ d (.sub o i):=fun{k y y₁ σ₁ σ₂ p m v f N Q} hB hc he G r hq=>BA he fun km σ₃ hcal hk hu=>rh hc fun pv pk z hc1 hc2=>by
  rw[arm_assign_Subscript]
  refine wpAny_bind (wpAny_holding (S₁ (k:=k.on (f++N)) sV G.st hB hc1 hu fun u y₂ sp R F=>?_))
  refine wpAny_bind (wpAny_holding (S₂ (k:=(k.on (f++N)).on []) R.st hB hc2 hk fun kv y₃ N₃ R₃ rk=>?_))
  rw[hcal]at R₃
  obtain⟨rfl,hρ,hos⟩:=R₃.calm rfl
  replace F:=F.stay R₃.mv.stay0 hρ hos
  have R':=(R.trans R₃).drop0
  have r₃:ag C y₃ v m f:=r.stay R'.mv.stay0
  have G₃:=G.then R'
  have T₁:Stay y₁ y₃ N:=R'.mv.stay0
  replace rk:=rk.at_
  refine wpAny_bind (wpAny_standAt (wpAny_bind (wpAny_holding (wpAny_mono (Q:=fun _ s=>Q () s) ?_ (fun _ _ h=>wpAny_release h) fun _ _ x=>x))))
  obtain⟨i,m',m'',zz,zz',w,pre,fp,post⟩:=sp
  have hF:=F.f
  have hR:=F.rep
  dsimp only at hF hR
  revert F hR rk
  refine vk hF (fun l i q zv hq1 hz rk F hR=>?_) fun fs s hl rk F hR=>?_
  · obtain⟨_,_,tk,rfl⟩:=rk
    have hl:(l.set q zv).length≤big:=by
      rw[List.length_set]
      exact hR.elim fun _ h=>h.elim fun _ h=>h.2.2.2.1
    refine m5 (y₁:=y₃.fz f) (F.stay Stay.fz rfl rfl) rfl rfl hl G₃.freeze fun la vs n hL hlen hz0 rv fin=>?_
    obtain⟨y',hs,G',T'⟩:=fin (·.setIfInBounds q v) (by
      show al C _ (vs.setIfInBounds q v).toList _
      rw[Array.toList_setIfInBounds]
      exact rv.set (r₃.frz hz))
    exact og (y:=y₃) hL (hlen▸hz0) (hlen▸hq1) (hs▸hq y' G' (T₁.trans (Stay.fz.trans T')))
  · obtain⟨_,_,tk,rfl⟩:=rk
    obtain⟨b,kvs,f1,rfl,rfl,hd,rm⟩:=hR
    have hN:(kvs.map (·.1)).Nodup:=by obtain⟨o,es,ep,ho,he,hd2,hk,hp,hn⟩:=id hd;exact hn
    obtain⟨f',rest,hp,hk⟩:=oe (t:=s) (m:=m) (v:=v) (fm:=f) rm
    refine wpAny_setItem_pairs (knd:=strKind C.cl.prog C.cl.w) (k:=Str.ofString s) (pM _ _) hd (fun h' hd' hs'=>?_) (lW (rm.length.symm▸hl))
    have mv:Mv y₃ (y₃.to { y₃.s with heap:=h',toks:=y₃.s.toks+1 }) [b]:=a7 hs'
    have T:=eS F (N:=f++N) G₃.st (.refl _) mv
    rw[sU hN]at hd'
    have rm':=hk (T.sub fun _ hy=>List.mem_append_left _ hy) (r₃.stay (T.sub fun _ hy=>List.mem_append_right _ (List.mem_append_left _ hy)))
    exact hq _ (kr F (g:=f) (rest:=rest) G₃ (zL mv (.head _)) (fp':=b::f') (hp.cons b) ⟨b,_,f',rfl,rfl,hd',rm'⟩) (T₁.trans ((T.sub fun _ hy=>List.mem_append_right _ (List.mem_append_right _ hy)).trans (.up rfl fun _ h=>h)))
@[elab_as_elim] theorem vm{n:String}{R:M→M→Prop}(h:my G n m x=some m')(j:∀c fs,G.prop c n=none→fs.length≤900→R (.obj c fs) (.obj c (jm fs n m))):R x m':=by
  cases x with
  |obj c fs=>
    have h:(match G.prop c n with|none=>if fs.length≤900 then some (M.obj c (jm fs n m))else none|some _=>none)=some m':=h
    cases hp:G.prop c n with
    |none=>rw[hp]at h;exact oI h fun hl e=>Option.some.inj e▸j c fs hp hl
    |some q=>rw[hp]at h;exact ns h
  |_=>exact ns h
theorem sX{n:String}:kj (my G n m):=⟨rfl,fun x m' h=>vm (R:=fun _ m'=>m'≠.undef) h fun _ _ _ _=>nofun⟩
theorem vn(FC:Facts C){o:E}{n:String}(S₁:SR C Φ d o):SST C Φ d (.attr o n):=fun{k y y₁ σ₁ σ₂ p m v f N Q} hB hc he G r hq=>nQ hc fun pv z hc1 hn=>by
  rw[arm_assign_Attribute]
  refine wpAny_bind (wpAny_holding (S₁ (k:=k.on (f++N)) (f:=my C.G n m) sX G.st hB hc1 he fun u y₂ sp R F=>?_))
  have r₂:ag C y₂ v m f:=r.stay R.mv.stay0
  have G₂:=G.then R
  have T₁:Stay y₁ y₂ N:=R.mv.stay0
  refine wpAny_bind (wpAny_standAt (wpAny_bind (wpAny_holding (wpAny_mono (Q:=fun _ s=>Q () s) ?_ (fun _ _ h=>wpAny_release h) fun _ _ x=>x))))
  obtain⟨i,m',m'',zz,zz',w,pre,fp,post⟩:=sp
  have hF:=F.f
  have hR:=F.rep
  dsimp only at hF hR
  revert F hR
  refine vm hF fun c fs hp hl F hR=>?_
  obtain⟨b,dd,kvs,f1,rfl,rfl,ho,rf⟩:=hR
  obtain⟨A',es,j,hcl,g1,g2,hent⟩:=ho
  have I:InstAt y₂.h b (instObj A' dd) A' (some (dictOf es j)):=⟨g1,rfl,rfl,g2⟩
  have hX:=kb FC R.st.ht
  obtain⟨q1,q2⟩:=FC.setattr c A' hcl
  obtain⟨f',rest,hpm,hk⟩:=oe (t:=n) (m:=m) (v:=v) (fm:=f) rf
  obtain⟨e1,e2⟩:=hent.put (v:=v) (n:=Str.ofString n) (hsh:=PyData.keyHash C.cl.w.params (Str.ofString n)) (tk:=y₂.s.toks+1)
  refine set_plain hX I q1 (xR (s:={ y₂.s with toks:=y₂.s.toks+1 }) hX I q2 (FC.taker c A' hcl n hn hp) (FC.dict c A' hcl) (by rw[hent.get];rfl) (Nat.le_trans e2 (by rw[hent.length,rf.length];exact Nat.le_trans (Nat.succ_le_succ hl) (by decide))) ?_)
  have mv:Mv y₂ (y₂.to { y₂.s with heap:=y₂.h.update dd (Obj.putName (Str.ofString n) (PyData.keyHash C.cl.w.params (Str.ofString n)) (.str (Str.ofString n) (y₂.s.toks+1)) v),toks:=y₂.s.toks+1+1 }) [dd]:=a7 (Heap.SameBut.update ..)
  have D':(y₂.h.update dd (Obj.putName (Str.ofString n) (PyData.keyHash C.cl.w.params (Str.ofString n)) (.str (Str.ofString n) (y₂.s.toks+1)) v)).get? dd=some (dictOf (putL (Str.ofString n) (PyData.keyHash C.cl.w.params (Str.ofString n)) (.str (Str.ofString n) (y₂.s.toks+1)) v es) (putN (Str.ofString n) es j)):=by
    rw[←putName_dict]
    exact Heap.get?_update_self _ g2 (by rw[putName_dict];rfl)
  have T:=eS F (N:=f++N) (f1:=b::f1) G₂.st (.swap ..) mv
  have rm':=hk (T.sub fun _ hy=>.tail _ (List.mem_append_left _ hy)) (r₂.stay (T.sub fun _ hy=>.tail _ (List.mem_append_right _ (List.mem_append_left _ hy))))
  exact hq _ (kr F (g:=f) (rest:=rest) G₂ (zL mv (.tail _ (.head _))) (fp':=b::dd::f') ((hpm.cons dd).cons b) ⟨b,dd,_,f',rfl,rfl,⟨A',_,_,hcl,T.own b (.head _) _ g1,D',e1⟩,rm'⟩) (T₁.trans ((T.sub fun _ hy=>.tail _ (List.mem_append_right _ (List.mem_append_right _ hy))).trans (.up rfl fun _ h=>h)))
end
end Mine.Internal
end
section
namespace Mine.Internal
open PySem PySem.W PySem.Calls PyProof.Rows
noncomputable def SSL(C:Cx)(Φ:Phi)(d:Nat)(l:List S):Prop:=∀{k:Kx} {y:Y} {σ:List M} {ps:List Stmt} {fl:Fl} {σ':List M} {Q:Flow→Shared→Prop},
  St C k y σ→k.a.cs=none→Bud k.A d→bo C.G.io k.a.sx l ps=true→exs C.G Φ l σ=some (fl,σ')→fW C k y σ' Q fl→W C k (execs ps k.a.env) Q y.s
section
variable {C:Cx} {Φ:Phi} {d:Nat} {k:Kx} {y y' y₁:Y} {σ σ' σ₁:List M} {Q:Flow→Shared→Prop} {G:Tab} {fl:Fl}
theorem W.any{α:Type}{x:Sem α}{Q:α→Shared→Prop}{E:Value→Shared→Prop}{s:Shared}(h:W C k x Q s):wpAny (model C.cl.prog C.cl.w) k.A x Q E s:=wpAny_mono h (fun _ _ h=>h) fun _ _ x=>x.elim
theorem fW.after(P:fW C k y σ' Q fl)(G:Go C k y y₁ σ₁ []):fW C k y₁ σ' Q fl:=by
  cases fl with
  |next=>exact fun y' G'=>P y' (G.seq G')
  |ret m=>exact fun v y' N G' r=>P v y' N (G.seq G') r
theorem BB{c:E}{l r:List S}(S₁:ST C Φ d c)(S₂:SSL C Φ d l)(S₃:SSL C Φ d r):SS C Φ d (.ite c l r):=fun{k y σ p fl σ' Q} S hcs hB hc he=>Db hc fun t u v pos c1 c2 c3 hq=>oP he fun m σ₁ h1 he=>oB he fun z hz he=>
  wpAny_If (S₁ S hB c1 h1 hz fun y₁ R=>by
    cases z with
    |true=>exact S₂ (k:=k) R.st hcs hB c2 he (hq.after R.go)
    |false=>exact S₃ (k:=k) R.st hcs hB c3 he (hq.after R.go))
theorem xT:SSL C Φ d []:=fun S hcs hB hc he=>sm he fun hq=>AD hc (wpAny_execs_nil (hq _ (.refl S)))
theorem vo{st:S}{r:List S}{p:Stmt}{q:List Stmt}(S₁:SS C Φ d st)(S₂:SSL C Φ d r)(S:St C k y σ)(hcs:k.a.cs=none)(hB:Bud k.A d)(h1:gN C.G.io k.a.sx st p=true)(h2:bo C.G.io k.a.sx r q=true)(he:exs C.G Φ (st::r) σ=some (fl,σ'))(hq:fW C k y σ' Q fl):
    W C k (execs (p::q) k.a.env) Q y.s:=
  oP he fun fl₁ σ₁ e1 he=>wpAny_execs_cons (S₁ S hcs hB h1 e1 (by
    cases fl₁ with
    |next=>exact fun y₁ G=>S₂ (k:=k) G.st hcs hB h2 he (hq.after G)
    |ret m=>
      revert hq
      exact sm he fun hq v y' N G r=>hq v y' N G r))
theorem oh:SS C Φ d (.ret none):=fun S hcs hB hc he=>sm he fun hq=>xg hc fun _=>wpAny_Return_none (hq _ _ [] (.refl S) ⟨rfl,rfl⟩)
theorem BC{e:E}(S₁:SE C Φ d e):SS C Φ d (.ret (some e)):=fun S hcs hB hc he hq=>AC hc fun p _ hc=>oP he fun m σ₁ h1 h=>oI h fun hok h=>by
  revert hq
  exact sm h fun hq=>wpAny_Return_some (S₁ S hB hc h1 fun v y' N R r=>hq v y' N R.go (r.own hok))
theorem pS{p:PySem.Expr}{n:Nat}{env:Env}(h:a_ p=true):swapsWith p none n env=pure false:=by
  cases p<;>first|rfl|exact absurd h Bool.false_ne_true
theorem xU{e:E}(S₁:SE C Φ d e):SS C Φ d (.expr e):=fun{k y σ p fl σ' Q} S hcs hB hc he hq=>xf hc fun p _ hc hcall=>oM he fun q h1 e=>by
  obtain⟨m,σ₁⟩:=q
  revert hq
  exact nx e fun hq=>wpAny_Expr_any (S₁ S hB hc h1 fun v y' N R r=>hq _ R.drop0.go) (dS k) (pS hcall)
@[elab_as_elim] theorem pT{t:T}{e:E}{R:Fl→List M→Prop}(h:ex G Φ (.asg t e) σ=some (fl,σ'))(j:∀m σ₁ σ',ev G Φ e σ=some (m,σ₁)→ga e m=true→store G Φ t m σ₁=some σ'→R .next σ'):R fl σ':=
  oP h fun m σ₁ h1 h=>oI h fun hok h=>oM h fun τ hu e=>nx e (j m σ₁ τ h1 hok hu)
theorem lZ{t:T}{e:E}{u p:PySem.Expr}{pos:Pos}(S₁:SE C Φ d e)(S₂:SST C Φ d t)(hs:swapsWithSole [u] p pos.line k.a.env=pure false)(hw:swappedStores [u] p k.a.env=pure none)
    (S:St C k y σ)(hB:Bud k.A d)(c1:gM C.G.io k.a.sx t u=true)(c2:af C.G.io k.a.sx e p=true)(he:ex C.G Φ (.asg t e) σ=some (fl,σ')):fW C k y σ' Q fl→W C k (exec (.Assign [u] p pos) k.a.env) Q y.s:=
  pT he fun m σ₁ σ₂ h1 hok h2 hq=>wpAny_Assign_stores (S₁ S hB c2 h1 fun v y₁ N R r=>by
    rw[bh (iK c1)]
    exact S₂ (N:=[]) hB c1 h2 ((List.append_nil N).symm▸R.go) (r.own hok) fun y₂ G₂ _=>hq y₂ G₂) hs hw
noncomputable def whF(G:Tab)(Φ:Phi)(c:E)(b:List S):List M→Option (List M ⊕ (Fl×List M)):=fun σ=>(ev G Φ c σ).bind fun(m,σ)=>m.bool?.bind fun z=>if z then(exs G Φ b σ).map fun(fl,σ)=>(match fl with|.next=>.inl σ|.ret m=>.inr (.ret m,σ))else some (.inr (.next,σ))
theorem BD{c:E}{b:List S}(S₁:ST C Φ d c)(S₂:SSL C Φ d b):SS C Φ d (.whl c b):=fun{k y σ p fl σ' Q} S hcs hB hc he=>AA hc fun t u pos c1 c2 hq=>by
  refine wpAny_While (codeAny_whileLoop (fun n s=>∃σ₁ y',s=y'.s∧Go C k y y' σ₁ []∧iterN (whF C.G Φ c b) n σ₁=some (fl,σ')) (fun n s ⟨σ₁,y₁,e,G,hi⟩=>?_) big ⟨σ,y,rfl,.refl S,he⟩)
  subst e
  cases n with
  |zero=>exact ns hi
  |succ n=>
    refine oB hi fun x hx h3=>oP hx fun m σ₂ h1 h=>oB h fun z hz h2=>W.any (S₁ (k:=k) G.st hB c1 h1 hz fun y₂ R=>?_)
    have G₂:=G.seq R.go
    cases z with
    |false=>
      obtain rfl:=Option.some.inj (show some (Sum.inr (Fl.next,σ₂))=some x from h2)
      revert hq
      exact sm (show some (Fl.next,σ₂)=some (fl,σ')from h3) fun hq=>wpAny_execs_nil (hq _ G₂)
    |true=>
      refine oM (o:=exs C.G Φ b σ₂) h2 fun q h4 e=>W.any (S₂ (k:=k) (fl:=q.1) (σ':=q.2) G₂.st hcs hB c2 h4 ?_)
      subst e
      obtain⟨fl₁,σ₃⟩:=q
      cases fl₁ with
      |next=>exact fun y₃ G₃=>⟨n,Nat.lt_succ_self n,σ₃,y₃,rfl,G₂.seq G₃,h3⟩
      |ret m=>
        revert hq
        exact sm (show some (Fl.ret m,σ₃)=some (fl,σ')from h3) fun hq v y₃ N G₃ r=>hq v y₃ N (G₂.seq G₃) r
end
end Mine.Internal
end
section
namespace Mine.Internal
open PySem PySem.W PySem.Calls PyProof.Rows
section
variable {C:Cx} {k:Kx} {y y' y₁ y₂:Y} {σ σ' σ₁ σ₂:List M} {N:List Addr}
theorem P.ind{R:P→Prop}{Rs:List P→Prop}(hv:∀i,R (.var i))(ht:∀l,Rs l→R (.tup l))(n:Rs [])(c:∀p l,R p→Rs l→Rs (p::l)):(∀p,R p)∧∀l,Rs l:=
  ⟨fun p=>P.rec (motive_1:=R) (motive_2:=Rs) hv ht n c p,fun l=>P.rec_1 (motive_1:=R) (motive_2:=Rs) hv ht n c l⟩
theorem l0{x:Sx}{t:P}{p:PySem.Expr}(h:eM x t p=true):∀v q,p≠.Starred v q:=by
  intro v q e';subst e'
  cases t<;>exact absurd h Bool.false_ne_true
theorem sY{x:Sx}{env:Env}{l:List P}:∀{ps:List PySem.Expr},gL x l ps=true→(assignEach ps env).length=l.length∧(assignEach ps env).findIdx? (·.1)=none:=by
  induction l with
  |nil=>intro ps h;exact uo h ⟨rfl,rfl⟩
  |cons t l ih=>
    intro ps h
    refine uq h fun p q h1 h2=>?_
    obtain⟨e1,e2⟩:=ih h2
    rw[bh (l0 h1)]
    exact⟨congrArg Nat.succ e1,by rw[List.findIdx?_cons,e2];rfl⟩
@[elab_as_elim] theorem zM{xs:List V}{R:List V→List M→Prop}(h:f9 [] xs σ=some σ')(j:R [] σ):R xs σ':=by
  cases xs with
  |nil=>exact Option.some.inj h▸j
  |cons m q=>exact ns h
@[elab_as_elim] theorem zN{t:P}{r:List P}{xs:List V}{R:List V→Prop}(h:f9 (t::r) xs σ=some σ')(j:∀x q σ₁,ey t x σ=some σ₁→f9 r q σ₁=some σ'→R (x::q)):R xs:=by
  cases xs with
  |nil=>exact ns h
  |cons m q=>exact oB h fun σ₁ h1 h2=>j m q σ₁ h1 h2
theorem sZ{l:List P}:∀{xs:List V} {σ σ':List M},f9 l xs σ=some σ'→l.length=xs.length:=by
  induction l with
  |nil=>intro xs σ σ' h;exact zM (R:=fun xs _=>0=xs.length) h rfl
  |cons t l ih=>intro xs σ σ' h;exact zN (R:=fun xs=>l.length+1=xs.length) h fun x q σ₁ _ h2=>congrArg Nat.succ (ih h2)
theorem aV.unp{x:V}{xs:List V}{u:Value}{R:Value→Prop}(e:x.unp?=some xs)(r:aV C y u x)(j:∀b vs,(y.h.IsTuple b vs∨y.h.IsList b vs)→al C y vs.toList xs→R (.ref b)):R u:=by
  cases x with
  |tup l=>cases e;exact r.tup_e fun a vs _ h _ q=>j a vs (.inl h) q
  |lst l=>cases e;exact r.lst_e fun a vs _ h _ q=>j a vs (.inr (aQ h)) q
  |_=>exact ns e
structure Bnd (C:Cx) (k:Kx) (Pi:List Nat) (I:Y→List M→Prop):Prop where
  still:∀{y:Y} {σ:List M} {s:Shared},I y σ→Mv y (y.to s) []→I (y.to s) σ
  store:∀{y:Y} {σ:List M} {i:Nat} {n:ae} {u:Value} {x:V} {Q:Unit→Shared→Prop},i∈Pi→k.a.sx.isSt i n=true→i<σ.length→I y σ→aV C y u x→(∀y',I y' (σ.set i (.v x))→Stay y y' []→Q () y'.s)→W C k (storeName k.a.env n u) Q y.s
theorem rQ{Pi:List Nat}{I:Y→List M→Prop}(B:Bnd C k Pi I)(hh:k.A.handled=none):
    (∀p:P,∀{x:V} {t:PySem.Expr} {y:Y} {σ₁ σ₂:List M} {v:Value} {Q:Unit→Shared→Prop},(∀i∈p.stores,i∈Pi)→eM k.a.sx p t=true→ey p x σ₁=some σ₂→I y σ₁→aV C y v x→(∀y',I y' σ₂→Stay y y' []→Q () y'.s)→W C k (assign t k.a.env v) Q y.s)∧
    ∀l:List P,∀{xs:List V} {ps:List PySem.Expr} {y:Y} {σ₁ σ₂:List M} {vs:List Value} {Q:Unit→Shared→Prop},(∀i∈P.storess l,i∈Pi)→gL k.a.sx l ps=true→f9 l xs σ₁=some σ₂→I y σ₁→al C y vs xs→(∀y',I y' σ₂→Stay y y' []→Q () y'.s)→W C k (assignInOrder ((assignEach ps k.a.env).map (·.2)) vs) Q y.s:=by
  refine P.ind (fun i x t y σ₁ σ₂ v Q hP hc he hI r hq=>?_) (fun l ih x t y σ₁ σ₂ v Q hP hc he hI r hq=>?_) (fun{xs ps y σ₁ σ₂ vs Q} hP hc he=>?_) fun p l ih ihs xs ps y σ₁ σ₂ vs Q hP hc he=>?_
  · refine mO hc fun n z hs=>oI he fun hi e=>wpAny_assign_Name (B.store (hP i (.head _)) hs hi hI r ?_)
    obtain rfl:=Option.some.inj e
    exact hq
  · refine q_ hc fun es c z _ hc=>oB he fun xs hx he=>?_
    obtain⟨h1,h2⟩:=sY (env:=k.a.env) hc
    rw[arm_assign_Tuple]
    refine r.unp (R:=fun v=>W C k (do standAt z;unpack v (assignEach es k.a.env)) Q y.s) hx fun b vs hb rs=>?_
    refine wpAny_bind (wpAny_standAt (kg hh hb (h1.trans ((sZ he).trans rs.size.symm)) h2 fun h' hk=>?_))
    have mv:Mv y (y.to { y.s with heap:=h' }) []:=bI (t:=y.s.toks) hk
    exact ih (y:=y.to { y.s with heap:=h' }) hP hc he (B.still hI mv) (rs.stay mv.stay0) fun y₂ I₂ T=>hq y₂ I₂ (mv.stay0.trans T)
  · refine zM he fun hI r hq=>?_
    rw[show vs=[]from r]
    exact uo hc (wpAny_assignInOrder_none (hq _ hI (.up rfl fun _ h=>h)))
  · refine zN he fun x q σ₃ h1 h2 hI r hq=>uq hc fun t ts hc1 hc2=>?_
    obtain⟨u,ws,rfl,r1,r2⟩:=r
    rw[bh (l0 hc1)]
    exact wpAny_assignInOrder_more (ih (fun i hi=>hP i (List.mem_append_left _ hi)) hc1 h1 hI r1 fun y₂ I₂ T=>ihs (fun i hi=>hP i (List.mem_append_right _ hi)) hc2 h2 I₂ (r2.stay T) fun y₃ I₃ T'=>hq y₃ I₃ (T.trans T'))
@[elab_as_elim] theorem xV{p:P}{x:M}{R:P→M→List M→Prop}(h:iY p x σ=some σ')(j1:∀p z σ',ey p z σ=some σ'→R p (.v z) σ')(j2:∀i x,i<σ.length→R (.var i) x (σ.set i x)):R p x σ':=by
  cases x with
  |v z=>exact j1 p z σ' h
  |undef=>cases p with
    |var i=>exact oI h fun _ h=>ns h
    |tup l=>exact ns h
  |_=>cases p with
    |var i=>exact oI h fun hi h=>Option.some.inj h▸j2 i _ hi
    |tup l=>exact ns h
theorem oi{p:P}{x:M}{t:PySem.Expr}{v:Value}{f:List Addr}{Q:Unit→Shared→Prop}(hh:k.A.handled=none)(he:iY p x σ₁=some σ₂):eM k.a.sx p t=true→Go C k y y₁ σ₁ (f++N)→ag C y₁ v x f→(∀y₂,Go C k y y₂ σ₂ N→Stay y₁ y₂ N→Q () y₂.s)→W C k (assign t k.a.env v) Q y₁.s:=by
  refine xV he (fun p z σ₂ he hc G r hq=>?_) fun i x hi hc G r hq=>?_
  · obtain⟨rfl,r⟩:=r
    exact(rQ (I:=fun y' σ'=>Go C k y y' σ' N∧Stay y₁ y' N) ⟨fun⟨G,T⟩ mv=>⟨G.still mv,T.trans mv.stay0⟩,fun{y₂ σ i n u x Q} _ hs hi ⟨G,T⟩ r hq=>c7 (f:=[]) (m:=.v x) hs G ⟨rfl,r⟩ hi fun s₂ D hD _ G₂ mv=>(have T':Stay y₂ (y₂.st s₂ i u []) N:=Go.tail (f:=[]) G (mv.from rfl rfl) hD;hq _ ⟨G₂,T.trans T'⟩ T'.nil)⟩ hh).1 p (fun _ h=>h) hc he ⟨G,.up rfl fun _ h=>h⟩ r fun y' I _=>hq y' I.1 I.2
  · exact mO hc fun n z hs=>wpAny_assign_Name (c7 hs G r hi fun s₂ D hD _ G₂ mv=>hq _ G₂ (G.tail (mv.from rfl rfl) hD))
end
end Mine.Internal
end
section
namespace Mine.Internal
open PySem PySem.W PySem.Calls PyProof.Rows
section
variable {C:Cx} {Φ:Phi} {d:Nat} {k:Kx} {y y' y₁ y₂:Y} {σ σ' σ₁ σ₂:List M} {N wr r:List Addr} {s:Shared} {fl:Fl} {G:Tab}
theorem St.letgo(S:St C (k.on (wr++r)) y σ)(mv:Mv y (y.to s) wr):St C (k.on r) (y.to s) σ∧Stay y (y.to s) (k.a.fr++(y.os.flatten++(r++k.X))):=by
  have p:=S.ht.perm (pm [k.a.fr,y.os.flatten,wr,r,k.X] (.a t0 (.a t1 (.a (.a t2 t3) t4))) (.a t2 (.a t0 (.a t1 (.a t3 t4)))) rfl)
  have T:=mv.stay (C:=C) p
  have H:=p.sub (List.sublist_append_right wr _)
  exact⟨⟨⟨fun b o e=>T.frz b (H.base' b o e) o (H.stays b o e),H.nodup,fun b hb=>⟨(H.own b hb).1,(H.own b hb).2.1,(T.own b hb).has (H.own b hb).2.2⟩,fun b hb=>(T.frz b hb).has (H.old b hb),H.base'⟩,
    S.vars.stay k.hE (T.sub fun b hb=>(List.mem_append.mp hb).elim (List.mem_append_left _) fun q=>List.mem_append_right _ (List.mem_append_left _ q)) rfl rfl⟩,T⟩
theorem Go.letgo(G:Go C k y y₁ σ₁ (wr++r))(mv:Mv y₁ (y₁.to s) wr):Go C k y (y₁.to s) σ₁ r:=
  ⟨G.mv.trans mv fun b hb=>(G.dirt b (.inr (List.mem_append_left _ hb))).imp (List.mem_append_right _) id,(G.st.letgo mv).1,fun b hb=>G.dirt b (hb.imp id (List.mem_append_right _))⟩
theorem St.fed(S:St C (k.on (wr++r)) y σ)(fd:Fed y y' wr):St C (k.on (wr++r)) y' σ∧Stay y y' (k.a.fr++(y.os.flatten++(r++k.X))):=by
  have T:=fd.mv.stay (C:=C) (S.ht.perm (pm [k.a.fr,y.os.flatten,wr,r,k.X] (.a t0 (.a t1 (.a (.a t2 t3) t4))) (.a t2 (.a t0 (.a t1 (.a t3 t4)))) rfl))
  refine⟨⟨?_,S.vars.stay k.hE (T.sub fun b hb=>(List.mem_append.mp hb).elim (List.mem_append_left _) fun q=>List.mem_append_right _ (List.mem_append_left _ q)) fd.ρ fd.os⟩,T⟩
  rw[fd.os]
  exact S.ht.touchL fd.mv (fun b hb=>⟨List.mem_append_right _ (List.mem_append_right _ (List.mem_append_left _ (List.mem_append_left _ hb))),fd.live b hb⟩) fd.new
theorem Go.fed(G:Go C k y y₁ σ₁ (wr++r))(fd:Fed y₁ y₂ wr):Go C k y y₂ σ₁ (wr++r):=
  ⟨G.mv.trans fd.mv fun b hb=>(G.dirt b (.inr (List.mem_append_left _ hb))).imp (List.mem_append_right _) id,(G.st.fed fd).1,fd.os▸G.dirt⟩
theorem Go.tmp(G:Go C k y y' σ' N)(S:St C k y σ):Stay y y' k.X:=G.mv.stay (C:=C) ((List.append_assoc k.a.fr y.os.flatten k.X).symm▸S.ht)
theorem oj{src:Src}{p:P}{t:PySem.Expr}{x:Sx}(h:sB src p=true)(hc:eM x p t=true):zG src t:=by
  cases p with
  |var i=>exact mO hc fun n z _=>by cases src<;>first|exact⟨_,_,rfl⟩|exact .inl ⟨_,_,rfl⟩|exact absurd h Bool.false_ne_true
  |tup l=>exact q_ hc fun es c z _ _=>by cases src<;>first|exact⟨_,_,_,rfl⟩|exact .inr ⟨_,_,_,rfl⟩|exact absurd h Bool.false_ne_true
theorem vp{i:PySem.Expr}{env:Env}(h:lH i=false):∀x,foldedSetIterable i env x=pure x:=by
  cases i<;>first|exact fun _=>rfl|exact absurd h Bool.noConfusion
noncomputable def vq(G:Tab)(Φ:Phi)(p:P)(b:List S):M→List M→Option (Fl×List M):=fun x σ=>(iY p x σ).bind fun σ=>exs G Φ b σ
noncomputable def rR(R:Result→Shared→Prop)(P:Shared→Prop):Flow→Shared→Prop
  |.next,s=>P s
  |.cont,s=>P s
  |.brk,s=>R (.ok .next) s
  |.ret v,s=>R (.ok (.ret v)) s
@[elab_as_elim] theorem xW{R:Result→Shared→Prop}{P P':Shared→Prop}{f:Flow}{s:Shared}{G:Flow→Prop}(h:rR R P f s)(h1:P s→P' s)(j1:P' s→G .next)(j2:P' s→G .cont)(j3:rR R P .brk s→G .brk)(j4:∀v,rR R P (.ret v) s→G (.ret v)):G f:=by
  cases f with
  |next=>exact j1 (h1 h)
  |cont=>exact j2 (h1 h)
  |brk=>exact j3 h
  |ret v=>exact j4 v h
noncomputable def FI(len:Nat)(J:Nat→Y→List Addr→Prop)(n:Nat)(s:Shared):Prop:=∃j y fs,s=y.s∧n+j=len∧J j y fs
@[elab_as_elim] theorem Du{len:Nat}{J:Nat→Y→List Addr→Prop}{n:Nat}{s:Shared}{G:Nat→Shared→Prop}(h:FI len J n s)(j0:∀y fs,J len y fs→G 0 y.s)(j1:∀n j y fs,n+1+j=len→J j y fs→G (n+1) y.s):G n s:=by
  obtain⟨j,y,fs,rfl,hn,h⟩:=h
  cases n with
  |zero=>exact j0 y fs ((Nat.zero_add j).symm.trans hn▸h)
  |succ n=>exact j1 n j y fs hn h
theorem Dv{n j:Nat}{xs:List M}(h:n+1+j=xs.length):j<xs.length:=h▸Nat.lt_add_of_pos_left (Nat.succ_pos n)
theorem rS{J:Nat→Y→List Addr→Prop}{n j len:Nat}{s:Shared}(h:n+1+j=len):(∃y fs,s=y.s∧J (j+1) y fs)→∃m,m<n+1∧FI len J m s:=fun⟨y,fs,e,hj⟩=>⟨n,Nat.lt_succ_self n,j+1,y,fs,e,(Nat.add_right_comm n 1 j).symm.trans h,hj⟩
theorem xX{t:PySem.Expr}{it:Value}{u:List Stmt}{xs:List M}{fp:List Addr}{I J:Nat→Y→List Addr→Prop}{R:Result→Shared→Prop}(D:Feed C k.A t it wr fp xs I)(hI:∀{j y fs},J j y fs→I j y fs)(done:∀{y fs s'},J xs.length y fs→Mv y (y.to s') wr→R (.ok .next) s')
    (step:∀{j y fs x},xs[j]?=some x→J j y fs→(∀b∈wr,¬y.F b∧b∉fs)∧∀{v y' f1 f2},fs=f1++f2→Fed y y' wr→ag C y' v x f1→I (j+1) y' f2→W C k (assign t k.a.env v) (fun _ s₂=>W C k (execs u k.a.env) (rR R fun s=>∃y fs,s=y.s∧J (j+1) y fs) s₂) y'.s)
    {fs:List Addr}(h:J 0 y fs):codeAny (model C.cl.prog C.cl.w) k.A (.forLoop t it u [] k.a.env) R y.s:=by
  refine codeAny_forLoop_any (fun n s=>FI xs.length J n s) (fun n s h=>?_) xs.length ⟨0,y,fs,rfl,rfl,h⟩
  refine Du h (fun y fs hJ=>D.done (hI hJ) fun s' mv=>wpAny_execs_nil (done hJ mv)) fun n j y fs hn hJ=>?_
  have hx:=List.getElem?_eq_getElem (Dv hn)
  obtain⟨h1,h2⟩:=step hx hJ
  refine wpAny_mono (D.item hx (hI hJ) h1 fun v y' f1 f2 e fd rx hI'=>?_) (fun r s₁ h=>by obtain⟨v,rfl,h⟩:=h;exact h) fun _ _ x=>x
  refine W.any (wpAny_mono (h2 e fd rx hI') (fun _ s₂ h=>W.any (wpAny_mono h (fun f s₃ h=>?_) fun _ _ x=>x)) fun _ _ x=>x)
  exact xW h (P':=fun s=>∃m,m<n+1∧FI xs.length J m s) (rS hn) id id id fun _=>id
structure Lp (C:Cx) (k:Kx) (y:Y) (xs:List M) (wr rest fp:List Addr) (I:Nat→Y→List Addr→Prop) (F:M→List M→Option (Fl×List M)) (o:Fl×List M) (j:Nat) (y':Y) (fs:List Addr) (σ:List M):Prop where
  go:Go C k y y' σ (wr++(fs++rest))
  it:I j y' fs
  fp:∀b∈fp,b∈wr∨y'.F b∨b∈rest
  tu:cw F (xs.drop j) σ=some o
theorem BE{F:M→List M→Option (Fl×List M)}{x:M}{l:List M}{o:Fl×List M}{R:Prop}(h:cw F (x::l) σ=some o)(j1:∀σ₁,F x σ=some (.next,σ₁)→cw F l σ₁=some o→R)(j2:∀m σ₁,F x σ=some (.ret m,σ₁)→o=(.ret m,σ₁)→R):R:=
  oP h fun fl σ₁ h1 h2=>by
    cases fl with
    |next=>exact j1 σ₁ h1 h2
    |ret m=>exact j2 m σ₁ h1 (Option.some.inj h2).symm
theorem s9{t:PySem.Expr}{it:Value}{xs:List M}{fp rest fs:List Addr}{I:Nat→Y→List Addr→Prop}{j:Nat}(D:Feed C k.A t it wr fp xs I)(T:Stay y y' (wr++(fs++rest)))(hf:∀b∈fp,b∈wr∨y.F b∨b∈rest)(hI:I j y fs):(∀b∈fp,b∈wr∨y'.F b∨b∈rest)∧I j y' fs:=
  ⟨fun b hb=>(hf b hb).imp id (Or.imp (T.fsub b) id),D.frame hI (fun b hb=>(hf b hb).elim (fun q=>T.own b (List.mem_append_left _ q)) fun q=>q.elim (T.frz b) fun q=>T.own b (List.mem_append_right _ (List.mem_append_right _ q))) (T.sub fun _ hb=>List.mem_append_right _ (List.mem_append_left _ hb))⟩
theorem St.wr_off{fs rest:List Addr}(S:St C (k.on (wr++(fs++rest))) y σ):∀b∈wr,¬y.F b∧b∉fs:=fun b hb=>
  ⟨(S.ht.own b (List.mem_append_right _ (List.mem_append_right _ (List.mem_append_left _ (List.mem_append_left _ hb))))).1,fun q=>nd (List.nodup_append.mp (List.nodup_append.mp (List.nodup_append.mp S.ht.nodup).2.1).2.1).1 hb (List.mem_append_left _ q)⟩
theorem vr{p:P}{b:List S}{t:PySem.Expr}{it v:Value}{u:List Stmt}{xs:List M}{rest fp f1 f2:List Addr}{I:Nat→Y→List Addr→Prop}{j:Nat}{x:M}{P:Flow→Shared→Prop}{Q:Flow→Shared→Prop}(S₂:SSL C Φ d b)(hcs:k.a.cs=none)(hB:Bud k.A d)(hc1:eM k.a.sx p t=true)(hc4:bo C.G.io k.a.sx b u=true)
    (hq:fW C k y σ' Q fl)(D:Feed C k.A t it wr fp xs I)(L:Lp C k y xs wr rest fp I (vq C.G Φ p b) (fl,σ') j y₁ (f1++f2) σ)(hx:xs[j]?=some x)(fd:Fed y₁ y₂ wr)(rx:ag C y₂ v x f1)(hI':I (j+1) y₂ f2)
    (j1:∀y₃ σ,Lp C k y xs wr rest fp I (vq C.G Φ p b) (fl,σ') (j+1) y₃ f2 σ→P .next y₃.s)(j2:∀v y₃,Q (.ret v) y₃→P (.ret v) y₃):W C k (assign t k.a.env v) (fun _ s₂=>W C k (execs u k.a.env) P s₂) y₂.s:=by
  have ht:=L.tu
  rw[fh hx]at ht
  have G₃:=(L.go.fed fd).perm (pm [wr,f1,f2,rest] (.a t0 (.a (.a t1 t2) t3)) (.a t1 (.a t0 (.a t2 t3))) rfl)
  refine BE ht (fun σ₄ hb ht=>oB hb fun σ₃ hb hex=>oi hB.handled hb hc1 G₃ rx fun y₄ G₄ T₄=>S₂ (k:=k.on (wr++(f2++rest))) G₄.st hcs hB hc4 hex fun y₅ G₅=>?_)
    fun m σ₄ hb e=>oB hb fun σ₃ hb hex=>oi hB.handled hb hc1 G₃ rx fun y₄ G₄ T₄=>S₂ (k:=k.on (wr++(f2++rest))) G₄.st hcs hB hc4 hex fun v y₅ N₅ G₅ r=>?_
  · obtain⟨q1,q2⟩:=s9 D (T₄.trans (G₅.tmp G₄.st |>.sub fun _=>List.mem_append_left _)) (fun b hb=>(L.fp b hb).imp id (Or.imp (fd.mv.fsub b) id)) hI'
    exact j1 y₅ σ₄ ⟨G₄.trans G₅,q2,q1,ht⟩
  · cases e
    exact j2 v y₅.s (hq v y₅ N₅ ((G₄.trans G₅).drop (List.sublist_append_left _ _)) r)
theorem BF{p:P}{src:Src}{b:List S}(S₁:SI C Φ d src)(S₂:SSL C Φ d b):SS C Φ d (.for_ p src b):=fun{k y σ st fl σ' Q} S hcs hB hc he=>AB hc fun t i u z hc1 hc2 hset hc3 hc4 hq=>oP he fun xs σ₁ h1 he=>by
  refine wpAny_For (S₁ S hB hc3 (oj hc2 hc1) h1 fun it y₁ wr fs rest fp I R D I0 hfp=>?_) (vp hset)
  refine xX (J:=fun j y' fs=>∃σ,Lp C k y xs wr rest fp I (vq C.G Φ p b) (fl,σ') j y' fs σ) D (fun⟨_,L⟩=>L.it) (fun{y₂ fs s'} ⟨σ₂,L⟩ mv=>?_) (fun hx ⟨σ₂,L⟩=>⟨L.go.st.wr_off,fun hfs fd rx hI'=>vr S₂ hcs hB hc1 hc4 hq D (hfs▸L) hx fd rx hI' (fun y₃ σ L=>⟨y₃,_,rfl,σ,L⟩) fun _ _ h=>h⟩) ⟨σ₁,R.go,I0,fun b hb=>(hfp b hb).imp id (Or.imp id fun q=>q.elim id fun q=>nomatch q.1),he⟩
  have ht:=L.tu
  rw[List.drop_length]at ht
  revert hq
  exact sm (show some (Fl.next,σ₂)=some (fl,σ')from ht) fun hq=>hq _ ((L.go.letgo mv).drop (List.nil_sublist _))
end
end Mine.Internal
end
section
namespace Mine.Internal
open PySem PySem.W PySem.Calls PyProof.Rows
noncomputable def et{α β:Type}(R:α→β→Prop):List α→List β→Prop
  |[],q=>q=[]
  |a::r,q=>∃b s,q=b::s∧R a b∧et R r s
theorem et.append{α β:Type}{R:α→β→Prop}{l l':List α}{q':List β}(h':et R l' q'):∀{q:List β},et R l q→et R (l++l') (q++q'):=by
  induction l with
  |nil=>intro q h;rw[show q=[]from h];exact h'
  |cons a l ih=>intro q h;obtain⟨b,s,rfl,h1,h2⟩:=h;exact⟨b,s++q',rfl,h1,ih h2⟩
theorem et.rev{α β:Type}{R:α→β→Prop}{l:List α}:∀{q:List β},et R l q→et R l.reverse q.reverse:=by
  induction l with
  |nil=>intro q h;rw[show q=[]from h];rfl
  |cons a l ih=>
    intro q h
    obtain⟨b,s,rfl,h1,h2⟩:=h
    rw[List.reverse_cons,List.reverse_cons]
    exact et.append (l':=[a]) (q':=[b]) ⟨b,[],rfl,h1,rfl⟩ (ih h2)
theorem et.len{α β:Type}{R:α→β→Prop}{l:List α}:∀{q:List β},et R l q→l.length=q.length:=by
  induction l with
  |nil=>intro q h;rw[show q=[]from h];rfl
  |cons a l ih=>intro q h;obtain⟨b,s,rfl,_,h2⟩:=h;exact congrArg Nat.succ (ih h2)
noncomputable def NE(t:PySem.Expr)(n:ae):Prop:=∃z,t=.Name n z
noncomputable def Swp(ts:List PySem.Expr)(names:List ae):Prop:=et NE ts names∧names.Nodup
theorem ol{α:Type}{c:Prop}{d:Decidable c}{a b:α}{R:α→Prop}(h1:c→R a)(h2:¬c→R b):R (if c then a else b):=by
  cases d with
  |isTrue h=>exact h1 h
  |isFalse h=>exact h2 h
theorem s_{g:PySem.Expr→Option ae}(hg:∀t n,g t=some n→NE t n){ts:List PySem.Expr}:(ts.filterMap g).length=ts.length→et NE ts (ts.filterMap g):=by
  induction ts with
  |nil=>exact fun _=>rfl
  |cons t r ih=>
    cases e:g t with
    |none=>
      rw[List.filterMap_cons_none e]
      exact fun h=>absurd (h▸List.length_filterMap_le g r) (Nat.not_succ_le_self _)
    |some n=>
      rw[List.filterMap_cons_some e]
      exact fun h=>⟨n,_,rfl,hg t n e,ih (Nat.succ.inj h)⟩
theorem EP:∀(n:Nat) (l:List ae),l.length≤n→l.eraseDups.length≤l.length∧(l.eraseDups.length=l.length→l.Nodup):=by
  intro n
  induction n with
  |zero=>intro l h;rw[List.length_eq_zero_iff.mp (Nat.le_zero.mp h)];exact⟨Nat.le_refl _,fun _=>.nil⟩
  |succ n ih=>
    intro l h
    cases l with
    |nil=>exact⟨Nat.le_refl _,fun _=>.nil⟩
    |cons a as=>
      have ha:=Nat.le_of_succ_le_succ h
      have hf:=List.length_filter_le (fun b=>!b==a) as
      have h1:=(ih (as.filter fun b=>!b==a) (Nat.le_trans hf ha)).1
      rw[List.eraseDups_cons]
      refine⟨Nat.succ_le_succ (Nat.le_trans h1 hf),fun e=>?_⟩
      have e:(as.filter fun b=>!b==a).eraseDups.length=as.length:=Nat.succ.inj e
      have hl:=Nat.le_antisymm hf (e▸h1)
      have hall:=List.length_filter_eq_length_iff.mp hl
      rw[List.filter_eq_self.mpr hall]at e
      exact List.nodup_cons.mpr ⟨fun hm=>absurd (beq_self_eq_true a) (Bool.eq_false_iff.mp (nt (hall a hm))),(ih as ha).2 e⟩
theorem zO{α:Type}[BEq α][LawfulBEq α]{a b:α}(h:(a != b)=false):a=b:=by
  rw[bne,Bool.not_eq_false']at h
  exact eq_of_beq h
theorem Dw{a b:Bool}(h:¬(a||b)=true):a=false∧b=false:=by
  cases a<;>cases b<;>first|exact⟨rfl,rfl⟩|exact absurd rfl h
theorem vt{g:PySem.Expr→Option ae}{ts:List PySem.Expr}(hg:∀t n,g t=some n→NE t n)(h:¬((ts.filterMap g).length != ts.length||(ts.filterMap g).eraseDups.length != (ts.filterMap g).length)=true):Swp ts (ts.filterMap g):=
  ⟨s_ hg (zO (Dw h).1),(EP _ _ (Nat.le_refl _)).2 (zO (Dw h).2)⟩
theorem BG{env:Env}{ts vs:List PySem.Expr}{k1 k2:Nat}{p1 p2:Pos}{R:Sem (Option (List ae))→Prop}(h:(vs.all (foldedForSure 8)||!(vs.all (constantsAlone 8)))=true)(j0:R (pure none))(j1:∀names,Swp ts names→R (pure (some names))):R (swappedStores [.Tuple ts k1 p1] (.Tuple vs k2 p2) env):=by
  refine ol (fun _=>j0) fun _=>ol (fun _=>j0) fun _=>ol (fun _=>j0) fun h3=>ol (fun _=>j0) fun h4=>ol (fun h5=>?_) fun _=>j1 _ (vt (fun t n=>?_) h3)
  · rw[h5,Bool.eq_false_iff.mpr h4]at h;exact absurd h Bool.false_ne_true
  · cases t with
    |Name id z=>exact fun h=>oI (α:=ae) h fun _ e=>⟨z,Option.some.inj e▸rfl⟩
    |_=>exact fun h=>ns h
section
variable {C:Cx} {Φ:Phi} {d:Nat} {k:Kx} {y y' y₁:Y} {σ σ' σ₁:List M} {N f:List Addr} {m:M} {G:Tab} {x:Sx} {fl:Fl} {Q:Flow→Shared→Prop}
noncomputable def NT(x:Sx)(t:T)(n:ae):Prop:=∃i b,t=.var i b∧x.isSt i n=true
theorem l4{i:Nat}{b:Bool}(h:store G Φ (.var i b) m σ=some σ'):∃z,i<σ.length∧σ'=σ.set i z∧∀τ:List M,i<τ.length→store G Φ (.var i b) m τ=some (τ.set i z):=oI h fun hi h=>by
  cases b with
  |true=>exact⟨m,hi,(Option.some.inj h).symm,fun τ ht=>if_pos ht⟩
  |false=>exact oM (o:=dG m) h fun z hz e=>⟨z,hi,e.symm,fun τ ht=>(if_pos ht).trans (by show(dG m).map _=_;rw[hz];rfl)⟩
theorem pU{i j:Nat}{b b':Bool}{m':M}(hij:i≠j)(h1:store G Φ (.var i b) m σ=some σ₁)(h2:store G Φ (.var j b') m' σ₁=some σ'):∃τ,store G Φ (.var j b') m' σ=some τ∧store G Φ (.var i b) m τ=some σ':=by
  obtain⟨z,q1,rfl,q2⟩:=l4 h1
  obtain⟨w,q3,rfl,q4⟩:=l4 h2
  rw[List.length_set]at q3
  exact⟨_,q4 σ q3,(q2 _ (by rw[List.length_set];exact q1)).trans (congrArg some (List.set_comm _ _ hij.symm))⟩
theorem BH{i j:Nat}{n n':ae}(h:x.isSt i n=true)(h':x.isSt j n'=true)(hn:n≠n'):i≠j:=fun e=>by
  subst e
  obtain⟨_,e1,rfl⟩:=mP (a3_ (a2_ h).1).1
  obtain⟨_,e2,rfl⟩:=mP (a3_ (a2_ h').1).1
  exact hn (congrArg _ (Option.some.inj (e1.symm.trans e2)))
theorem ta{io:String→List Bool}{t:T}{n:ae}{z:Pos}(h:gM io x t (.Name n z)=true):NT x t n:=by
  cases t with
  |var i b=>exact⟨i,b,rfl,(a2_ (show(x.isSt i n&&x.cs.isNone)=true from h)).1⟩
  |_=>exact absurd h Bool.false_ne_true
theorem om{io:String→List Bool}{l:List T}:∀{ts:List PySem.Expr} {ns:List ae},et NE ts ns→ej io x l ts=true→et (NT x) l ns:=by
  induction l with
  |nil=>intro ts ns h hc;rw[show ts=[]from emp hc]at h;exact h
  |cons t l ih=>
    intro ts ns h hc
    revert h
    refine pG hc fun p q h1 h2 h=>?_
    obtain⟨n,s,rfl,⟨z,rfl⟩,h⟩:=h
    exact⟨n,s,rfl,ta h1,ih h h2⟩
theorem oq{i:Nat}{b:Bool}{n:ae}(hi:x.isSt i n=true){l:List T}:∀{ns:List ae} {ms:List M} {σ σ₁ σ':List M},et (NT x) l ns→n∉ns→store G Φ (.var i b) m σ=some σ₁→stores G Φ l ms σ₁=some σ'→∃τ,stores G Φ l ms σ=some τ∧store G Φ (.var i b) m τ=some σ':=by
  induction l with
  |nil=>intro ns ms σ σ₁ σ' _ _ h1 h2;revert h1;exact lX h2 fun h1=>⟨σ,rfl,h1⟩
  |cons t l ih=>
    intro ns ms σ σ₁ σ' hl hn h1 h2
    obtain⟨n',q,rfl,⟨j,b',rfl,hj⟩,hl⟩:=hl
    refine lY h2 fun m' q' σ₂ h2 h3=>?_
    obtain⟨τ,g1,g2⟩:=pU (BH hi hj fun e=>hn (e▸.head _)) h1 h2
    obtain⟨τ',g3,g4⟩:=ih hl (fun h=>hn (.tail _ h)) g2 h3
    exact⟨τ',(by show(store G Φ (.var j b') m' σ).bind _=_;rw[g1];exact g3),g4⟩
theorem ot{t:T}{l:List T}:∀{ms:List M} {σ σ₁ σ':List M},stores G Φ l ms σ=some σ₁→store G Φ t m σ₁=some σ'→stores G Φ (l++[t]) (ms++[m]) σ=some σ':=by
  induction l with
  |nil=>intro ms σ σ₁ σ' h1 h2;revert h2;exact lX h1 fun h2=>by show(store G Φ t m σ).bind _=_;rw[h2];rfl
  |cons a l ih=>intro ms σ σ₁ σ' h1 h2;exact lY h1 fun z q τ g1 g2=>by show(store G Φ a z σ).bind _=_;rw[g1];exact ih g2 h2
theorem pV{l:List T}:∀{ns:List ae} {ms:List M} {σ σ':List M},et (NT x) l ns→ns.Nodup→stores G Φ l ms σ=some σ'→stores G Φ l.reverse ms.reverse σ=some σ':=by
  induction l with
  |nil=>intro ns ms σ σ' _ _ h;exact lX (R:=fun ms σ'=>stores G Φ [] ms.reverse σ=some σ') h rfl
  |cons t l ih=>
    intro ns ms σ σ' hl hn h
    obtain⟨n,q,rfl,⟨i,b,rfl,hi⟩,hl⟩:=hl
    obtain⟨n1,n2⟩:=List.nodup_cons.mp hn
    refine lY (R:=fun ms=>stores G Φ (T.var i b::l).reverse ms.reverse σ=some σ') h fun m q' σ₁ h1 h2=>?_
    obtain⟨τ,g1,g2⟩:=oq hi hl.rev (fun w=>n1 (List.mem_reverse.mp w)) h1 (ih hl n2 h2)
    rw[List.reverse_cons,List.reverse_cons]
    exact ot g1 g2
theorem aw.rev{l:List M}:∀{us:List Value} {f:List Addr},aw C y us l f→∃f',f.Perm f'∧aw C y us.reverse l.reverse f':=by
  induction l with
  |nil=>exact fun r=>⟨[],.of_eq r.2,(show _=[]from r.1)▸⟨rfl,rfl⟩⟩
  |cons a l ih=>
    intro us f r
    obtain⟨u,ws,f1,f2,rfl,rfl,r1,r2⟩:=r
    obtain⟨g,hp,r3⟩:=ih r2
    rw[List.reverse_cons,List.reverse_cons]
    exact⟨g++(f1++[]),((hp.append_left f1).trans List.perm_append_comm).trans (.of_eq (congrArg _ (List.append_nil _).symm)),r3.append (aw.cons r1 ⟨rfl,rfl⟩)⟩
theorem vv{l:List T}:∀{ns:List ae} {ms:List M} {vs:List Value} {f:List Addr} {y₁:Y} {σ₁ σ₂:List M} {Q:Unit→Shared→Prop},et (NT k.a.sx) l ns→stores G Φ l ms σ₁=some σ₂→Go C k y y₁ σ₁ (f++N)→aw C y₁ vs ms f→(∀y₂,Go C k y y₂ σ₂ N→Q () y₂.s)→
    W C k (assignInOrder (ns.map fun n=>bindName k.a.env n) vs) Q y₁.s:=by
  induction l with
  |nil=>
    intro ns ms vs f y₁ σ₁ σ₂ Q hl he H r hq
    rw[show ns=[]from hl]
    revert r hq
    refine lX he fun r hq=>?_
    obtain⟨rfl,rfl⟩:=r
    exact wpAny_assignInOrder_none (hq _ H)
  |cons t l ih=>
    intro ns ms vs f y₁ σ₁ σ₂ Q hl he H r hq
    obtain⟨n,q,rfl,⟨i,b,rfl,hi⟩,hl⟩:=hl
    revert r
    refine lY he fun m q' σ₃ h1 h2 r=>?_
    obtain⟨u,ws,f1,f2,rfl,rfl,r1,r2⟩:=r
    rw[List.append_assoc]at H
    exact wpAny_assignInOrder_more (bindName_ (ob hi h1 H r1 fun y₂ G₂ T=>ih hl h2 G₂ (r2.stay (T.sub fun b hb=>List.mem_append_left _ hb)) hq))
theorem xY{e:E}{u p:PySem.Expr}{n:Nat}{env:Env}(h:C4 e p=true)(hne:e.isComp=false):swapsWithSole [u] p n env=pure false:=by
  cases p with
  |ListComp=>exact absurd (hne.symm.trans h) Bool.false_ne_true
  |SetComp=>exact absurd h Bool.false_ne_true
  |DictComp=>exact absurd h Bool.false_ne_true
  |_=>rfl
theorem BI(p:PySem.Expr):(∃vs c z,p=.Tuple vs c z)∨∀ts c z env,swappedStores [.Tuple ts c z] p env=pure none:=by
  cases p with
  |Tuple vs c z=>exact .inl ⟨vs,c,z,rfl⟩
  |_=>exact .inr fun _ _ _ _=>rfl
theorem vx{io:String→List Bool}{t:T}{e:E}{u p:PySem.Expr}{env:Env}(hc:gM io x t u=true)(h:qS e u p=true):swappedStores [u] p env=pure none∨∃l ts k z names,t=.tup l∧u=.Tuple ts k z∧ej io x l ts=true∧swappedStores [u] p env=pure (some names)∧Swp ts names:=by
  cases t with
  |var i b=>exact rc (R:=fun u=>swappedStores [u] p env=pure none∨_) hc fun _ _ _=>.inl rfl
  |attr o n=>exact nQ (R:=fun u=>swappedStores [u] p env=pure none∨_) hc fun _ _ _ _=>.inl rfl
  |sub o i=>exact rh (R:=fun u=>swappedStores [u] p env=pure none∨_) hc fun _ _ _ _ _=>.inl rfl
  |tup l=>
    revert h
    refine rd hc fun ts c z _ hcs h=>?_
    rcases BI p with⟨vs,c',z',rfl⟩|hp
    · exact BG (R:=fun s=>s=pure none∨∃l' ts' k' z' names,T.tup l=.tup l'∧PySem.Expr.Tuple ts c z=.Tuple ts' k' z'∧ej io x l' ts'=true∧s=pure (some names)∧Swp ts' names) (a2_ h).2 (.inl rfl) fun names hs=>.inr ⟨l,ts,c,z,names,rfl,rfl,hcs,rfl,hs⟩
    · exact .inl (hp ts c z env)
theorem BJ{t:T}{e:E}(S₁:SE C Φ d e)(S₂:SST C Φ d t)(hne:e.isComp=false):SS C Φ d (.asg t e):=fun{k y σ st fl σ' Q} S hcs hB hc he=>ut hc fun u p z c1 c2 c3 hq=>by
  have hs:swapsWithSole [u] p z.line k.a.env=pure false:=xY (a2_ c3).1 hne
  rcases vx (env:=k.a.env) c1 c3 with hw|⟨l,ts,c,z',names,rfl,rfl,c1',hw,hsw⟩
  · exact lZ S₁ S₂ hs hw S hB c1 c2 he hq
  revert hq
  refine pT he fun m σ₁ σ₂ h1 hok h2 hq=>oB h2 fun ms hm h2=>Assign_Tuple_swapped (names:=names) (S₁ S hB c2 h1 fun v y₁ N R r=>?_) hs hw
  have hl:=om hsw.1 c1'
  refine(r.own hok).seq (R:=fun v=>W C k (PySem.unpackItems v names.length none) (fun items s₂=>W C k (assignInOrder (names.reverse.map fun n=>bindName k.a.env n) items.reverse) (fun _=>Q .next) s₂) y₁.s) (rP hm) fun a vs g hh _ rs hg=>?_
  rw[show names.length=vs.size from hl.len.symm.trans ((ku h2).trans rs.size.symm)]
  have fin:∀h',Heap.ExtBut y₁.h.objs.size y₁.h h'→W C k (assignInOrder (names.reverse.map fun n=>bindName k.a.env n) vs.toList.reverse) (fun _=>Q .next) { y₁.s with heap:=h' }:=fun h' hx=>by
    have mv:Mv y₁ (y₁.to { y₁.s with heap:=h' }) []:=bI (t:=y₁.s.toks) fun b o e=>hx b o (Nat.ne_of_lt (Heap.lt_size e)) e
    obtain⟨f',hp,rs'⟩:=(rs.stay mv.stay0).rev
    exact vv (N:=[]) (y₁:=y₁.to { y₁.s with heap:=h' }) hl.rev (pV hl hsw.2 h2) ((R.go.still mv).drop hg |>.perm (hp.trans (.of_eq (List.append_nil _).symm))) rs' fun y₂ G₂=>hq y₂ G₂
  rcases hh with hh|hh
  · exact wpAny_unpackItems_tuple hB.handled hh fin
  · exact dR hB.handled hh fin
end
end Mine.Internal
end
section
namespace Mine.Internal
open PySem PySem.W PySem.Calls PyProof.Rows
section
variable {C:Cx} {Φ:Phi} {d:Nat} {k:Kx} {y:Y} {σ σ':List M} {f:M→Option M} {G:Tab}
theorem rT{i:Nat}(hf:kj f)(he:bD G Φ (.var i) f σ=some σ')(S:St C k y σ):∃u o,Foc C y σ f σ' u o:=by
  refine gV (R:=fun σ'=>∃u o,Foc C y σ f σ' u o) he fun m m' hm hne hm'=>?_
  obtain⟨x,u,fp,L⟩:=S.vars.at_ i m hm hne
  exact⟨u,_,kl L hm hne hm' (hf.2 _ _ hm')⟩
theorem xZ{p:E}(h:p.isStr=true):∃t,p=.str t:=by
  cases p with
  |str t=>exact⟨t,rfl⟩
  |_=>exact absurd h Bool.false_ne_true
theorem x0{p:E}(h:p.plainRoad=true):(∃i,p=.var i)∨∃i t,p=.sub (.var i) (.str t):=by
  cases p with
  |var i=>exact .inl ⟨i,rfl⟩
  |sub r q=>exact .inr ((rO (a2_ h).1).elim fun i e=>(xZ (a2_ h).2).elim fun t e'=>⟨i,t,e▸e'▸rfl⟩)
  |_=>exact absurd h Bool.false_ne_true
theorem vy{p:E}(hf:kj f)(hp:p.plainRoad=true)(he:bD G Φ p f σ=some σ')(S:St C k y σ):∃u o,Foc C y σ f σ' u o:=by
  rcases x0 hp with⟨i,rfl⟩|⟨i,t,rfl⟩
  · exact rT hf he S
  · refine n8 he fun km σ₁ _ hk he=>?_
    obtain rfl:M.v (.str t)=km:=congrArg Prod.fst (Option.some.inj hk)
    obtain⟨u,o,F⟩:=rT (lV hf) he S
    obtain⟨i,m,m',z,z',w,pre,fp,post⟩:=o
    have hF:=F.f
    have hR:=F.rep
    dsimp only at hF hR
    obtain⟨fs,fs',rfl,rfl,hu⟩:∃fs fs',m=.dct fs∧m'=.dct fs'∧gE t f fs=some fs':=kq (R:=fun km m m'=>km=.v (.str t)→∃fs fs',m=.dct fs∧m'=.dct fs'∧gE t f fs=some fs') hF (fun fs s fs' hu e=>by cases e;exact⟨fs,fs',rfl,rfl,hu⟩) (fun _ _ _ _ _ _ _ _ e=>nomatch e) rfl
    obtain⟨b,kvs,f1,rfl,rfl,h2,h3⟩:=hR
    exact ki (R:=fun f1=>Foc C y σ _ σ' (.ref b) ⟨i,.dct fs,.dct fs',z,z',w,pre,b::f1,post⟩→∃u o,Foc C y σ f σ' u o) hf.1 h3 hu (fun nm nm' v pre' g post' r1 r2 r3 r4 r5 F=>⟨v,_,gW F (pre:=b::pre') (f:=f) rfl r1 r2 r3 fun T r=>u8 h2 T (r5 (kn T) r)⟩) F
theorem zP{m m':M}(h:dG m=some m'):∃x,m.toV=some x∧m'=.v x:=oM h fun x hx e=>⟨x,hx,e.symm⟩
theorem vz:kj dG:=⟨rfl,fun _ _ h=>(zP h).elim fun _ h e=>nomatch h.2.symm.trans e⟩
theorem x1{p:E}{r:List S}(S₂:SSL C Φ d r):SSL C Φ d (.frz p::r):=fun{k y σ ps fl σ' Q} S hcs hB hc he hq=>by
  obtain⟨hc1,hc2⟩:=a2_ hc
  refine oB he fun q h1 he=>oM h1 fun τ hu e=>?_
  subst e
  obtain⟨u,o,F⟩:=vy vz hc1 hu S
  obtain⟨x,hx,e⟩:=zP F.f
  have H:=xN F S (e▸⟨rfl,F.rep.frz hx⟩)
  exact S₂ (k:=k) (y:=(y.fz o.fp).va y.ρ (y.os.set o.i (o.pre++o.post))) H.st hcs hB hc2 he (hq.after H)
end
end Mine.Internal
end
section
namespace Mine.Internal
open PySem PySem.W PySem.Calls PyProof.Rows
theorem P.lo_le_:(∀p:P,∀i∈p.stores,p.lo≤i∧i<p.hi)∧∀l:List P,∀i∈P.storess l,P.los l≤i∧i<P.his l:=
  P.ind (fun j i h=>(List.mem_singleton.mp h)▸⟨Nat.le_refl _,Nat.lt_succ_self _⟩) (fun _ ih=>ih) nin fun p r h1 h2 i h=>(List.mem_append.mp h).elim
    (fun h=>⟨Nat.le_trans (Nat.min_le_left _ _) (h1 i h).1,Nat.lt_of_lt_of_le (h1 i h).2 (Nat.le_max_left _ _)⟩) fun h=>⟨Nat.le_trans (Nat.min_le_right _ _) (h2 i h).1,Nat.lt_of_lt_of_le (h2 i h).2 (Nat.le_max_right _ _)⟩
theorem Dx{o:Option M}(h:(match o with|some .undef=>true|_=>false)=true):o=some .undef:=by
  cases o with
  |none=>exact absurd h Bool.false_ne_true
  |some m=>cases m<;>first|rfl|exact absurd h Bool.false_ne_true
theorem Dy{σ:List M}:(∀p:P,gD p σ=true→∀i∈p.stores,σ[i]?=some .undef)∧∀l:List P,t_ l σ=true→∀i∈P.storess l,σ[i]?=some .undef:=
  P.ind (fun j h i hi=>(List.mem_singleton.mp hi)▸Dx h) (fun _ ih=>ih) (fun _=>nin) fun p r h1 h2 h i hi=>(List.mem_append.mp hi).elim (h1 (a2_ h).1 i) (h2 (a2_ h).2 i)
structure Clr (Pi:List Nat) (σ σ':List M):Prop where
  len:σ'.length=σ.length
  off:∀i,i∉Pi→σ'[i]?=σ[i]?
  on:∀i,i<σ.length→i∈Pi→σ'[i]?=some .undef
theorem Dz:(∀p:P,∀σ:List M,Clr p.stores σ (jk p σ))∧∀l:List P,∀σ:List M,Clr (P.storess l) σ (qJ l σ):=
  P.ind (fun j σ=>⟨List.length_set ..,fun i h=>List.getElem?_set_ne fun e=>h (List.mem_singleton.mpr e.symm),fun i h hi=>by rw[List.mem_singleton.mp hi]at h ⊢;exact List.getElem?_set_self h⟩) (fun _ ih=>ih) (fun σ=>⟨rfl,fun _ _=>rfl,fun _ _ h=>absurd h List.not_mem_nil⟩)
    fun p r h1 h2 σ=>⟨(h2 _).len.trans (h1 σ).len,fun i h=>((h2 _).off i fun q=>h (List.mem_append_right _ q)).trans ((h1 σ).off i fun q=>h (List.mem_append_left _ q)),fun i hi h=>by
      have hl:=(h1 σ).len.symm▸hi
      by_cases hr:i∈P.storess r
      · exact(h2 _).on i hl hr
      · exact((h2 _).off i hr).trans ((h1 σ).on i hi ((List.mem_append.mp h).resolve_right hr))⟩
structure Clos (env:Env) (l:List (ae×NameKind)) (cl:List (ae×Addr)):Prop where
  sub:∀x c,cl.lookup x=some c→env.cells.lookup x=some c
  has:∀x c,env.cells.lookup x=some c→(x,NameKind.free)∈l→cl.lookup x=some c
theorem jv{α β:Type}[BEq α][LawfulBEq α]{a x:α}{b c:β}{r:List (α×β)}{P:Prop}(h:((a,b)::r).lookup x=some c)(j1:x=a→c=b→P)(j2:r.lookup x=some c→P):P:=by
  by_cases e:x=a
  · subst e;rw[gQ]at h;exact j1 rfl (Option.some.inj h).symm
  · rw[fV e]at h;exact j2 h
theorem vA{env:Env}{f:ae×NameKind→List (ae×Addr)→Sem (ForInStep (List (ae×Addr)))}(hf:∀n k cs,f (n,k) cs=if(k==.free)=true then(do let c ←cellOf env n;pure (ForInStep.yield ((n,c)::cs)))else pure (ForInStep.yield cs)):∀(l:List (ae×NameKind)) (cs:List (ae×Addr)),(∀y∈l,y.2=.free→(env.cells.lookup y.1).isSome=true)→(∀x c,cs.lookup x=some c→env.cells.lookup x=some c)→
    ∃cl,forIn l cs f=pure cl∧(∀x c,cl.lookup x=some c→env.cells.lookup x=some c)∧∀x c,env.cells.lookup x=some c→(x,NameKind.free)∈l∨cs.lookup x=some c→cl.lookup x=some c:=by
  intro l
  induction l with
  |nil=>exact fun cs _ hs=>⟨cs,rfl,hs,fun _ _ _ h=>h.elim nofun id⟩
  |cons y r ih=>
    intro cs hl hs
    obtain⟨n,k⟩:=y
    have hr:∀y∈r,y.2=.free→(env.cells.lookup y.1).isSome=true:=fun y hy=>hl y (.tail _ hy)
    rw[List.forIn_cons,hf]
    by_cases hk:k=.free
    · subst hk
      obtain⟨c,hc⟩:=Option.isSome_iff_exists.mp (hl (n,.free) (.head _) rfl)
      replace hc:env.cells.lookup n=some c:=hc
      obtain⟨cl,e,h1,h2⟩:=ih ((n,c)::cs) hr fun x c' h=>jv h (fun e e'=>by rw[e,e'];exact hc) (hs x c')
      refine⟨cl,?_,h1,fun x c' hx h=>h2 x c' hx ?_⟩
      · rw[show cellOf env n=pure c by unfold cellOf;rw[hc]];exact e
      · by_cases e:x=n
        · subst e;rw[gQ];exact .inr (hc.symm.trans hx)
        · rw[fV e];exact h.imp (fun h=>(List.mem_cons.mp h).resolve_left fun q=>e (congrArg Prod.fst q)) id
    · rw[if_neg (fun q=>hk (eq_of_beq q))]
      obtain⟨cl,e,h1,h2⟩:=ih cs hr hs
      exact⟨cl,e,h1,fun x c hx h=>h2 x c hx (h.imp (fun h=>(List.mem_cons.mp h).resolve_left fun q=>hk (congrArg Prod.snd q).symm) id)⟩
theorem x3{scope:Scope}{env:Env}(h:∀y∈scope.names,y.2=.free→(env.cells.lookup y.1).isSome=true):∃cl,closureFor scope env=pure cl∧Clos env scope.names cl:=by
  obtain⟨cl,e,h1,h2⟩:=vA (f:=fun x cs=>(match x with|(name,kind)=>if(kind==.free)=true then(do let c ←cellOf env name;pure (ForInStep.yield ((name,c)::cs)))else pure (ForInStep.yield cs):Sem (ForInStep (List (ae×Addr))))) (fun _ _ _=>rfl) scope.names [] h nofun
  exact⟨cl,(congrArg (· >>= fun cs=>pure cs) e:_),h1,fun x c hx h=>h2 x c hx (.inl h)⟩
noncomputable def d8(a:Act)(scope:Scope)(p:P)(cl:List (ae×Addr))(C:Addr):Act:=⟨compEnvC scope cl C a.env,a.vs,C::a.fr,a.n1,some (p.lo,p.hi),[]⟩
theorem m6{a:Act}{scope:Scope}(hk:a.env.scope.kind=.function):(relabel scope a.env).names=ub a.env.scope.names scope.names:=by
  unfold relabel ub
  dsimp only
  refine List.map_congr_left fun y _=>?_
  rw[hk]
  simp[Env.kindOf]
theorem l5{out names:List (ae×NameKind)}{x:ae}(hc:∀y∈names,y.2≠.cell):(ub out names).lookup x=some .cell→(x,NameKind.free)∈names∧out.lookup x=some .cell:=by
  induction names with
  |nil=>exact nofun
  |cons y r ih=>
    obtain⟨n,k⟩:=y
    have hr:=ih fun y hy=>hc y (.tail _ hy)
    show((if(k==NameKind.free&&out.lookup n==some .cell)=true then(n,NameKind.cell)else(n,k))::ub out r).lookup x=some .cell→_
    by_cases hf:(k==NameKind.free&&out.lookup n==some .cell)=true
    · rw[if_pos hf]
      obtain⟨h1,h2⟩:=a2_ hf
      exact fun h=>jv h (fun e _=>by rw[e,←eq_of_beq h1];exact⟨.head _,eq_of_beq h2⟩) fun h=>⟨.tail _ (hr h).1,(hr h).2⟩
    · rw[if_neg hf]
      exact fun h=>jv h (fun _ e=>absurd e.symm (hc (n,k) (.head _))) fun h=>⟨.tail _ (hr h).1,(hr h).2⟩
theorem vB{a:Act}{sc:Scope}{p:P}{cl:List (ae×Addr)}{D:Addr}(hE:EnvOk a)(hk:sc.kind=.function)(hc:∀y∈sc.names,y.2≠.cell)(hcl:Clos a.env sc.names cl)(hD:D∉a.fr)(hnd:((a.vs.take p.hi).drop p.lo).Nodup)(hhi:p.hi≤a.vs.length):EnvOk (d8 a sc p cl D):=by
  refine⟨hk,hE.globals,hE.builtins,.head _,fun x c e=>.tail _ (hE.cells x c (hcl.sub x c e)),fun i x hi hx hkd=>?_,fun x y c h1 h2=>hE.apart x y c (hcl.sub x c h1) (hcl.sub y c h2),fun x c e q=>hD ((show c=D from q)▸hE.cells x c (hcl.sub x c e)),hE.inj,fun c0 c1 he=>?_,nin⟩
  · obtain⟨h1,h2⟩:=l5 (out:=a.env.scope.names) hc (m6 hE.kind▸(show(relabel sc a.env).names.lookup _=_ from hkd))
    obtain⟨c,hcc⟩:=hE.has i x hi hx h2
    exact⟨c,hcl.has _ c hcc h1⟩
  · cases he
    intro i j x h1 h2 h3 h4 h5 h6
    have get:∀k,p.lo≤k→k<p.hi→((a.vs.take p.hi).drop p.lo)[k-p.lo]?=a.vs[k]?:=fun k q1 q2=>by
      rw[List.getElem?_drop,List.getElem?_take,Nat.add_sub_cancel' q1,if_pos q2]
    have hl:i-p.lo<((a.vs.take p.hi).drop p.lo).length:=by
      rw[List.length_drop,List.length_take,Nat.min_eq_left hhi];exact Nat.sub_lt_sub_right h1 h2
    have e:=(List.getElem?_inj hl hnd).mp (((get i h1 h2).trans h5).trans ((get j h3 h4).trans h6).symm)
    exact(Nat.sub_add_cancel h1).symm.trans ((congrArg (· +p.lo) e).trans (Nat.sub_add_cancel h3))
theorem x_{a:Act}{sc:Scope}{p:P}{cl:List (ae×Addr)}{D:Addr}(hE:EnvOk a):(d8 a sc p cl D).sx=jX a.sx p sc:=by
  show Sx.mk a.vs (relabel sc a.env).names a.n1 (some (p.lo,p.hi)) []=_
  rw[m6 hE.kind];rfl
theorem vC{a:Act}{n:ae}(hE:EnvOk a)(h:a.sx.isCell n=true):(a.env.cells.lookup n).isSome=true:=by
  obtain⟨h1,h2⟩:=a2_ h
  obtain⟨i,hi,h2⟩:=List.any_eq_true.mp h2
  obtain⟨x,hx,rfl⟩:=mP h2
  obtain⟨c,hc⟩:=hE.has i x (List.mem_range.mp hi) hx (dec h1)
  rw[hc];rfl
end Mine.Internal
end
section
namespace Mine.Internal
open PySem PySem.W PySem.Calls PyProof.Rows
noncomputable def Y.may(y:Y)(c:Bool)(b:Addr):Prop:=b∈y.dr c∨y.no b
structure In (C:Cx) (k k':Kx) (Pi:List Nat) (y:Y) (σ:List M) (c:Bool) (y₁:Y) (σ₁:List M) (N:List Addr):Prop where
  mv:Mv y y₁ (y.dr c)
  st:St C (k'.on N) y₁ σ₁
  calm:c=true→y₁.os=y.os∧∀i,i∉Pi→σ₁[i]?=σ[i]?
  rho:∀i,i<k.a.n1→y₁.ρ[i]?=y.ρ[i]?
  dirt:∀b,b∈y₁.os.flatten∨b∈N→b∈y.os.flatten∨y.no b
  und:∀i:Nat,i∉Pi→σ[i]?=some M.undef→σ₁[i]?=some M.undef
section
variable {C:Cx} {k k':Kx} {Pi:List Nat} {y y₁ y₂:Y} {σ σ₁ σ₂:List M} {N N' N₂ wr r:List Addr} {c c₂:Bool} {s:Shared} {D:Addr}
theorem In.perm(I:In C k k' Pi y σ c y₁ σ₁ N)(h:N.Perm N'):In C k k' Pi y σ c y₁ σ₁ N':=⟨I.mv,I.st.perm h,I.calm,I.rho,fun b hb=>I.dirt b (hb.imp id (h.mem_iff.mpr ·)),I.und⟩
theorem In.drop(I:In C k k' Pi y σ c y₁ σ₁ N)(h:N'.Sublist N):In C k k' Pi y σ c y₁ σ₁ N':=⟨I.mv,I.st.drop h,I.calm,I.rho,fun b hb=>I.dirt b (hb.imp id (h.subset ·)),I.und⟩
theorem In.old{b:Addr}(I:In C k k' Pi y σ c y₁ σ₁ N)(h:y₁.no b):b∈y.os.flatten∨y.no b:=(I.mv.old h).imp iC id
theorem In.run(hn:k'.a.n1=k.a.n1)(I:In C k k' Pi y σ c y₁ σ₁ N)(R:Run C (k'.on N) y₁ σ₁ c₂ y₂ σ₂ N₂)(hc:c=true→c₂=true):In C k k' Pi y σ c y₂ σ₂ (N₂++N):=by
  have two:∀{b},b∈y₁.os.flatten∨y₁.no b→b∈y.os.flatten∨y.no b:=fun h=>h.elim (fun q=>I.dirt _ (.inl q)) I.old
  refine⟨I.mv.trans R.mv fun x hx=>?_,⟨R.st.ht.perm (pm [k'.a.fr,y₂.os.flatten,N₂,N,k'.X] (.a t0 (.a t1 (.a t2 (.a t3 t4)))) (.a t0 (.a t1 (.a (.a t2 t3) t4))) rfl),R.st.vars⟩,fun h=>?_,fun i hi=>(R.rho i (hn▸hi)).trans (I.rho i hi),fun b hb=>?_,fun i hi h=>R.und i (I.und i hi h)⟩
  · cases c₂ with
    |true=>cases hx
    |false=>cases c with
      |true=>exact absurd (hc rfl) Bool.false_ne_true
      |false=>exact I.dirt x (.inl hx)
  · obtain⟨e1,_,e3⟩:=R.calm (hc h)
    exact⟨e3.trans (I.calm h).1,e1▸(I.calm h).2⟩
  · exact hb.elim (fun q=>two (R.dirt b (.inl q))) fun q=>(List.mem_append.mp q).elim (fun q=>two (R.dirt b (.inr q))) fun q=>I.dirt b (.inr q)
theorem In.fed(I:In C k k' Pi y σ c y₁ σ₁ (wr++r))(fd:Fed y₁ y₂ wr)(hw:∀b∈wr,y.may c b):In C k k' Pi y σ c y₂ σ₁ (wr++r):=
  ⟨I.mv.trans fd.mv hw,(I.st.fed fd).1,fd.os▸I.calm,fd.ρ▸I.rho,fd.os▸I.dirt,I.und⟩
theorem In.letgo(I:In C k k' Pi y σ c y₁ σ₁ (wr++r))(mv:Mv y₁ (y₁.to s) wr)(hw:∀b∈wr,y.may c b):In C k k' Pi y σ c (y₁.to s) σ₁ r:=
  ⟨I.mv.trans mv hw,(I.st.letgo mv).1,I.calm,I.rho,fun b hb=>I.dirt b (hb.imp id (List.mem_append_right _)),I.und⟩
theorem m7{os:List (List Addr)}{i:Nat}(h:os[i]?=some []):os.set i []=os:=by
  obtain⟨hi,e⟩:=List.getElem?_eq_some_iff.mp h
  exact(congrArg (os.set i) e.symm).trans (List.set_getElem_self hi)
theorem St.loc(S:St C (k'.on N) y₁ σ₁)(mv:Mv y₁ y₂ [k'.a.env.locals]):Stay y₁ y₂ (N++y₁.os.flatten):=by
  have T:Stay y₁ y₂ (y₁.os.flatten++N):=Mv.stay (C:=C) (D:=k'.a.fr) (mv.wide fun b hb=>List.mem_singleton.mp hb▸k'.hE.locals) (S.ht.sub (.append (.refl _) (.append (.refl _) (List.sublist_append_left _ _))))
  exact T.sub fun b hb=>List.mem_append.mpr (List.mem_append.mp hb).symm
theorem jw{α:Type}{l:List α}{i j:Nat}{x:α}(hi:i∈Pi)(hj:j∉Pi):(l.set i x)[j]?=l[j]?:=List.getElem?_set_ne fun(q:i=j)=>hj (q▸hi)
theorem vD{α:Type}{l:List α}{i j n:Nat}{x:α}(hi:n≤i)(hj:j<n):(l.set i x)[j]?=l[j]?:=List.getElem?_set_ne fun(q:i=j)=>absurd hj (Nat.not_lt.mpr (q▸hi))
theorem In.store{i:Nat}{n:ae}{u:Value}{x:V}{Q:Unit→Shared→Prop}(hn:k'.a.n1=k.a.n1)(hlo:k.a.n1≤i)(hD:y.may c k'.a.env.locals)(hi:i∈Pi)(hs:k'.a.sx.isSt i n=true)(hl:i<σ₁.length)(ho:y₁.os[i]?=some [])(I:In C k k' Pi y σ c y₁ σ₁ N)(r:aV C y₁ u x)
    (hq:∀y₂,In C k k' Pi y σ c y₂ (σ₁.set i (.v x)) N→y₂.os=y₁.os→Stay y₁ y₂ (N++y₁.os.flatten)→Q () y₂.s):W C k' (storeName k'.a.env n u) Q y₁.s:=
  c7 (k:=k'.on N) (f:=[]) (N:=[]) (m:=.v x) hs (Go.refl I.st) ⟨rfl,r⟩ hl fun s₂ D _ hDl G mv=>by
    obtain rfl:=hDl (hn▸hlo)
    have eo:(y₁.st s₂ i u []).os=y₁.os:=m7 ho
    have mv':Mv y₁ (y₁.st s₂ i u []) [k'.a.env.locals]:=mv.from rfl rfl
    exact hq (y₁.st s₂ i u []) ⟨I.mv.trans mv' fun b hb=>List.mem_singleton.mp hb▸hD,G.st,fun h=>⟨eo.trans (I.calm h).1,fun j hj=>(jw hi hj).trans ((I.calm h).2 j hj)⟩,fun j hj=>(vD hlo hj).trans (I.rho j hj),eo.symm▸I.dirt,fun j hj q=>(jw hi hj).trans (I.und j hj q)⟩ eo (I.st.loc mv')
theorem In.bind{p:P}{t:PySem.Expr}{x:V}{v:Value}{Q:Unit→Shared→Prop}(hh:k'.A.handled=none)(hn:k'.a.n1=k.a.n1)(hlo:∀i∈p.stores,k.a.n1≤i)(hD:y.may c k'.a.env.locals)(ho:∀i∈p.stores,y₁.os[i]?=some [])(hc:eM k'.a.sx p t=true)(he:ey p x σ₁=some σ₂)(I:In C k k' p.stores y σ c y₁ σ₁ N)(r:aV C y₁ v x)
    (hq:∀y₂,In C k k' p.stores y σ c y₂ σ₂ N→y₂.os=y₁.os→Stay y₁ y₂ (N++y₁.os.flatten)→Q () y₂.s):W C k' (assign t k'.a.env v) Q y₁.s:=
  (rQ (I:=fun y' σ'=>In C k k' p.stores y σ c y' σ' N∧y'.os=y₁.os∧Stay y₁ y' (N++y₁.os.flatten))
    ⟨fun⟨I,e,T⟩ mv=>⟨I.letgo (wr:=[]) mv nin,e,T.trans mv.stay0⟩,fun hi hs hl ⟨I,e,T⟩ r hq=>In.store hn (hlo _ hi) hD hi hs hl (e▸ho _ hi) I r fun y₃ I₃ e₃ T₃=>hq y₃ ⟨I₃,e₃.trans e,T.trans (e▸T₃)⟩ T₃.nil⟩ hh).1 p (fun _ h=>h) hc he ⟨I,rfl,.up rfl fun _ h=>h⟩ r fun y' h _=>hq y' h.1 h.2.1 h.2.2
theorem gX{os:List (List Addr)}{i:Nat}:(os.set i []).flatten.Sublist os.flatten:=by
  induction os generalizing i with
  |nil=>exact .slnil
  |cons x r ih=>
    cases i with
    |zero=>exact List.sublist_append_right x _
    |succ i=>exact .append (.refl x) ih
theorem In.clr_:(∀p:P,∀{y₁:Y} {σ₁:List M},(∀i∈p.stores,i∈Pi∧y.os[i]?=some [])→In C k k' Pi y σ c y₁ σ₁ N→∃os,In C k k' Pi y σ c (y₁.va y₁.ρ os) (jk p σ₁) N∧((∀i∈p.stores,y₁.os[i]?=some [])→os=y₁.os))∧
    ∀l:List P,∀{y₁:Y} {σ₁:List M},(∀i∈P.storess l,i∈Pi∧y.os[i]?=some [])→In C k k' Pi y σ c y₁ σ₁ N→∃os,In C k k' Pi y σ c (y₁.va y₁.ρ os) (qJ l σ₁) N∧((∀i∈P.storess l,y₁.os[i]?=some [])→os=y₁.os):=by
  refine P.ind (fun i y₁ σ₁ hp I=>?_) (fun _ ih=>ih) (fun{y₁ σ₁} _ I=>⟨_,I,fun _=>rfl⟩) fun p l h1 h2 y₁ σ₁ hp I=>?_
  · obtain⟨hP,ho⟩:=hp i (.head _)
    exact⟨y₁.os.set i [],⟨I.mv.from rfl rfl,⟨(I.st.ht.sub (.append (.refl _) (.append gX (.refl _)))).re rfl rfl,I.st.vars.undef i⟩,fun hc=>⟨by rw[←(I.calm hc).1]at ho ⊢;exact m7 ho,fun j hj=>(jw hP hj).trans ((I.calm hc).2 j hj)⟩,I.rho,fun b hb=>I.dirt b (hb.imp (fun q=>gX.subset q) id),fun j hj q=>(jw hP hj).trans (I.und j hj q)⟩,fun h=>m7 (h i (.head _))⟩
  · obtain⟨os,I₁,e₁⟩:=h1 (fun i hi=>hp i (List.mem_append_left _ hi)) I
    obtain⟨os',I₂,e₂⟩:=h2 (fun i hi=>hp i (List.mem_append_right _ hi)) I₁
    exact⟨os',I₂,fun h=>(e₂ fun i hi=>(e₁ fun i hi=>h i (List.mem_append_left _ hi))▸h i (List.mem_append_right _ hi)).trans (e₁ fun i hi=>h i (List.mem_append_left _ hi))⟩
noncomputable def Kx.cm(k:Kx)(sc:Scope)(p:P)(cl:List (ae×Addr))(D:Addr)(h:EnvOk (d8 k.a sc p cl D)):Kx:=⟨d8 k.a sc p cl D,k.A,k.X,h⟩
variable {p:P} {cl:List (ae×Addr)} {sc:Scope} {hE:EnvOk (d8 k.a sc p cl D)}
theorem DA(S:St C k y σ)(mv:Mv y y₁ (y.dr c)):∀b∈k.a.fr,Kp y y₁ b:=fun b hb=>mv.keep b fun q=>nd S.ht.nodup hb (List.mem_append_left _ (iC q))
theorem vE{i:Nat}{m:M}(hl:σ₁.length=σ.length)(e:σ₁[i]?=some m)(hne:m≠.undef)(hu:σ[i]?=some .undef→σ₁[i]?=some .undef):∃m',σ[i]?=some m'∧m'≠.undef:=by
  have h:=List.getElem?_eq_getElem (hl▸bL e)
  exact⟨_,h,fun q=>hne (Option.some.inj (e.symm.trans (hu (q▸h))))⟩
theorem In.vars(hcs:k.a.cs=none)(S:St C k y σ)(hund:∀i:Nat,σ[i]?=some M.undef→σ₁[i]?=some M.undef)(I:In C k (k.cm sc p cl D hE) Pi y σ c y₁ σ₁ N):Vars C k.a y₁ σ₁:=by
  have V:Vars C (d8 k.a sc p cl D) y₁ σ₁:=I.st.vars
  have T:=DA S I.mv
  have hlen:σ₁.length=σ.length:=V.lenV.symm.trans S.vars.lenV
  refine⟨V.lenR,V.lenO,V.lenV,?_,fun x c e=>?_,fun i m e hne=>?_,V.und,fun q hq=>(I.rho q.1 (k.hE.pin q hq)).trans (S.vars.pin q hq)⟩
  · obtain⟨m,o,es,ep,ho,q⟩:=S.vars.ns;exact⟨m,o,es,ep,T _ k.hE.locals o ho,q⟩
  · obtain⟨u,o,ho,q⟩:=S.vars.cell x c e;exact⟨u,o,T _ (k.hE.cells x c e) o ho,q⟩
  · obtain⟨x,u,fp,L⟩:=V.at_ i m e hne
    obtain⟨m',e',hne'⟩:=vE hlen e hne (hund i)
    obtain⟨x',u',fp',L'⟩:=S.vars.at_ i m' e' hne'
    obtain rfl:x'=x:=Option.some.inj (L'.v.symm.trans L.v)
    have key:i<k.a.n1→k.a.At y₁ i (Str.ofString x') u:=fun hi=>(Option.some.inj (L'.ρ.symm.trans ((I.rho i hi).symm.trans L.ρ))▸L'.at_).stay k.hE T
    exact⟨x',u,fp,L.v,L.ρ,L.o,⟨fun kd l=>(key l).1 kd l,fun kd l=>(key (by unfold Act.reads at l;rw[hcs]at l;exact l)).2 kd l⟩,L.rep⟩
theorem In.out(hcs:k.a.cs=none)(S:St C k y σ)(hP:∀i∈Pi,k.a.n1≤i∧σ[i]?=some .undef∧σ₁[i]?=some .undef)(hD:y.may c D)(I:In C k (k.cm sc p cl D hE) Pi y σ c y₁ σ₁ N):∃ρ,Run C k y σ c (y₁.va ρ y₁.os) σ₁ (D::N):=by
  have hund:∀i:Nat,σ[i]?=some M.undef→σ₁[i]?=some M.undef:=fun i h=>by
    by_cases hi:i∈Pi
    · exact(hP i hi).2.2
    · exact I.und i hi h
  have H:HT C y₁ (k.a.fr++(y₁.os.flatten++((D::N)++k.X))):=I.st.ht.perm (pm [[D],k.a.fr,y₁.os.flatten,N,k.X] (.a (.a t0 t1) (.a t2 (.a t3 t4))) (.a t1 (.a t2 (.a (.a t0 t3) t4))) rfl)
  have dirt:∀b,b∈y₁.os.flatten∨b∈D::N→b∈y.os.flatten∨y.no b:=fun b hb=>hb.elim (fun q=>I.dirt b (.inl q)) fun q=>(List.mem_cons.mp q).elim (fun e=>e▸hD.imp iC id) fun q=>I.dirt b (.inr q)
  cases c with
  |false=>exact⟨y₁.ρ,I.mv,⟨H,(show Vars C k.a y₁ σ₁ from I.vars hcs S hund)⟩,nofun,I.rho,dirt,hund⟩
  |true=>
    obtain⟨e1,e2⟩:=I.calm rfl
    have eσ:σ₁=σ:=List.ext_getElem? fun i=>by
      by_cases hi:i∈Pi
      · exact(hP i hi).2.2.trans (hP i hi).2.1.symm
      · exact e2 i hi
    have mv:Mv y (y₁.va y.ρ y₁.os) []:=I.mv.from rfl rfl
    exact⟨y.ρ,mv,⟨H.re rfl rfl,eσ▸S.vars.stay k.hE mv.stay0 rfl e1⟩,fun _=>⟨eσ,rfl,e1⟩,fun _ _=>rfl,dirt,hund⟩
theorem In.enter(hcl:Clos k.a.env sc.names cl)(hcn:∀y∈sc.names,y.2≠.cell)(R:Run C k y σ c₂ y₁ σ₁ (D::N))(hc:c=true→c₂=true)(hns:∃m,y₁.h.Ns D m)(hund:∀i,p.lo≤i→i<p.hi→σ₁[i]?=some .undef):In C k (k.cm sc p cl D hE) Pi y σ c y₁ σ₁ N:=by
  have V:=R.st.vars
  refine⟨(R.mono hc).mv,⟨R.st.ht.perm (pm [[D],k.a.fr,y₁.os.flatten,N,k.X] (.a t1 (.a t2 (.a (.a t0 t3) t4))) (.a (.a t0 t1) (.a t2 (.a t3 t4))) rfl),V.lenR,V.lenO,V.lenV,hns,fun x c e=>V.cell x c (hcl.sub x c e),fun i m e hne=>?_,V.und,nin⟩,fun h=>⟨(R.calm (hc h)).2.2,fun i _=>by rw[(R.calm (hc h)).1]⟩,R.rho,fun b hb=>R.dirt b (hb.imp id (.tail _)),fun i _ h=>R.und i h⟩
  obtain⟨x,u,fp,L⟩:=V.at_ i m e hne
  refine⟨x,u,fp,L.v,L.ρ,L.o,⟨fun kd l=>?_,fun kd l=>absurd (Option.some.inj ((hund i l.1 l.2).symm.trans e)).symm hne⟩,L.rep⟩
  obtain⟨q1,q2⟩:=l5 (out:=k.a.env.scope.names) hcn (m6 k.hE.kind▸(show(relabel sc k.a.env).names.lookup _=_ from kd))
  obtain⟨c',hc',q⟩:=L.at_.1 q2 l
  exact⟨c',hcl.has _ _ hc' q1,q⟩
end
end Mine.Internal
end
section
namespace Mine.Internal
open PySem PySem.W PySem.Calls PyProof.Rows
section
variable {C:Cx} {Φ:Phi} {d:Nat} {k k':Kx} {Pi:List Nat} {y y₁ y₂ y':Y} {σ σ₁ σ₂ σ':List M} {N N' N₂ wr rest fp fs fa os₀:List Addr} {c c₂ steady:Bool} {L:Addr} {G:Tab}
noncomputable abbrev zQ(ifs:List PySem.Expr)(env:Env):Sem Bool:=forIn ifs true fun c r=>if r=true then do let ok ←isTrue c env (eval c env);pure (ForInStep.yield ok)else pure (ForInStep.yield r)
theorem pW{cond:Option E}{ifs:List PySem.Expr}{z:Bool}{Q:Bool→Shared→Prop}(S₃:∀c,cond=some c→ST C Φ d c)(S:St C k y σ)(hB:Bud k.A d)(hc:jY C.G.io k.a.sx cond ifs=true)(he:evC C.G Φ cond σ=some (z,σ')):(∀y',Run C k y σ (E.calmO C.G.io cond) y' σ' []→Q z y'.s)→W C k (zQ ifs k.a.env) Q y.s:=by
  cases cond with
  |none=>
    obtain rfl:=emp hc
    exact sm (show some (true,σ)=some (z,σ')from he) fun hq=>wpAny_tests_nil (hq y (.refl S _))
  |some c=>
    obtain⟨i,rfl,hc⟩:=ug hc
    exact oP he fun m σ₁ h1 he=>oM he fun b hb e hq=>by
      obtain⟨rfl,rfl⟩:=Prod.mk.inj e
      exact wpAny_tests_one (S₃ c rfl S hB hc h1 hb hq)
noncomputable def zR(C:Cx)(k:Kx)(t e:PySem.Expr)(ifs:List PySem.Expr)(L:Addr)(P:Shared→Prop)(v:Value)(s:Shared):Prop:=
  W C k (assign t k.a.env v) (fun _ s₂=>W C k (zQ ifs k.a.env) (fun ok s₃=>if ok=true then W C k (eval e k.a.env) (fun x s₄=>W C k (call (.builtin "list.append") [.ref L,x]) (fun _ s₅=>P s₅) s₄) s₃ else P s₃) s₂) s
theorem vF{e t iter:PySem.Expr}{ifs:List PySem.Expr}{sc:Scope}{pos:Pos}{it:Value}{R:Result→Shared→Prop}(I:Nat→Shared→Prop)
    (b9:∀n s,I n s→W C k (pyNext it) (fun r s₁=>match r with
      |none=>R (.ok .next) s₁
      |some v=>W C k (letOwnedTupleGo t it v) (fun _ s=>zR C k t e ifs L (fun s=>∃m,m<n∧I m s) v s) s₁) s)
    (n:Nat){s:Shared}(h:I n s):codeAny (model C.cl.prog C.cl.w) k.A (.compLoop (.ListComp e [⟨t,iter,ifs,0⟩] sc pos) 0 it (.ref L) k.a.env) R s:=by
  refine codeAny_loop rfl I (fun n s hI=>?_) n h
  show wpAny _ k.A ((compTurn (.ListComp e [⟨t,iter,ifs,0⟩] sc pos) 0 it (.ref L) k.a.env).onRaise (fun x=>do noteFrame x k.a.env;theTreesLotGoes x)) _ _ s
  refine wpAny_noted ?_
  rw[compTurn_list]
  refine wpAny_bind (wpAny_standAt (wpAny_bind (wpAny_mono (b9 n s hI) (fun r s₁ h₁=>?_) fun _ _ h'=>h'.elim)))
  cases r with
  |none=>exact wpAny_pure h₁
  |some v=>
    refine wpAny_bind (wpAny_mono h₁ (fun _ s₁' h₁=>wpAny_bind (wpAny_mono h₁ (fun _ s₂ h₂=>wpAny_bind (wpAny_mono h₂ (fun ok s₃ h₃=>?_) fun _ _ h'=>h'.elim)) fun _ _ h'=>h'.elim)) fun _ _ h'=>h'.elim)
    cases ok with
    |false=>exact wpAny_pure ⟨rfl,h₃⟩
    |true=>exact wpAny_bind (wpAny_bind (wpAny_mono h₃ (fun x s₄ h₄=>wpAny_bind (wpAny_mono h₄ (fun _ s₅ h₅=>wpAny_pure (wpAny_pure ⟨rfl,h₅⟩)) fun _ _ h'=>h'.elim)) fun _ _ h'=>h'.elim))
structure Kept (C:Cx) (wr rest fp os₀:List Addr) (steady:Bool) (I:Y→Prop) (L:Addr) (va:Array Value) (ys:List M) (fa:List Addr) (y:Y):Prop where
  it:I y
  fp:∀b∈fp,b∈wr∨y.F b∨b∈rest∨(steady=false∧b∈os₀)
  lst:y.h.PlainList L va
  acc:aw C y va.toList ys fa
theorem mW{b:Addr}(h:b∈wr):b∈wr++(fs++(rest++(L::fa))):=List.mem_append_left _ h
theorem mF{b:Addr}(h:b∈fs):b∈wr++(fs++(rest++(L::fa))):=List.mem_append_right _ (List.mem_append_left _ h)
theorem mR{b:Addr}(h:b∈rest):b∈wr++(fs++(rest++(L::fa))):=List.mem_append_right _ (List.mem_append_right _ (List.mem_append_left _ h))
theorem mA{b:Addr}(h:b∈L::fa):b∈wr++(fs++(rest++(L::fa))):=List.mem_append_right _ (List.mem_append_right _ (List.mem_append_right _ h))
theorem m8(q:∀b∈fp,b∈wr∨y.F b∨b∈rest∨(steady=false∧b∈os₀))(h:∀b,y.F b→y'.F b):∀b∈fp,b∈wr∨y'.F b∨b∈rest∨(steady=false∧b∈os₀):=fun b hb=>(q b hb).imp id (Or.imp (h b) id)
theorem rU{t:PySem.Expr}{it:Value}{xs:List M}{I:Nat→Y→List Addr→Prop}{j:Nat}(D:Feed C k.A t it wr fp xs I)(q:∀b∈fp,b∈wr∨y.F b∨b∈rest∨(steady=false∧b∈os₀))(T:Stay y y' (wr++(fs++rest)))(T':steady=false→Stay y y' os₀)(h:I j y fs):I j y' fs:=
  D.frame h (fun b hb=>(q b hb).elim (fun w=>T.own b (List.mem_append_left _ w)) fun w=>w.elim (T.frz b) fun w=>w.elim (fun w=>T.own b (List.mem_append_right _ (List.mem_append_right _ w))) fun w=>(T' w.1).own b w.2) (T.sub fun b hb=>List.mem_append_right _ (List.mem_append_left _ hb))
theorem Kept.step{t:PySem.Expr}{it:Value}{xs ys:List M}{va:Array Value}{I:Nat→Y→List Addr→Prop}{j:Nat}(D:Feed C k.A t it wr fp xs I)(q:Kept C wr rest fp os₀ steady (fun y=>I j y fs) L va ys fa y)(T:Stay y y' (wr++(fs++(rest++(L::fa)))))(T':steady=false→Stay y y' os₀):Kept C wr rest fp os₀ steady (fun y=>I j y fs) L va ys fa y':=
  ⟨rU D q.fp (T.sub fun b hb=>(List.mem_append.mp hb).elim mW fun hb=>(List.mem_append.mp hb).elim mF mR) T' q.it,m8 q.fp T.fsub,d4 q.lst (T.own L (mA (.head _))),q.acc.stay (T.sub fun b hb=>mA (.tail _ hb))⟩
theorem Kept.run{t:PySem.Expr}{it:Value}{xs ys:List M}{va:Array Value}{I:Nat→Y→List Addr→Prop}{j:Nat}(D:Feed C k.A t it wr fp xs I)(R:Run C (k'.on (wr++(fs++(rest++(L::fa))))) y σ c y' σ' N)(S:St C (k'.on (wr++(fs++(rest++(L::fa))))) y σ)(hs:steady=false→c=true)
    (q:Kept C wr rest fp os₀ steady (fun y=>I j y fs) L va ys fa y):Kept C wr rest fp os₀ steady (fun y=>I j y fs) L va ys fa y':=
  q.step D (R.stay S (.inr fun b hb=>List.mem_append_left _ hb)) fun h=>R.stay S (.inl (hs h))
@[elab_as_elim] theorem BK{F:V→List M→Option (Option M×List M)}{x:V}{r:List V}{o:List M}{R:List M→Prop}(h:ac F (x::r) σ=some (o,σ'))(j:∀z σ₁ ys,F x σ=some (z,σ₁)→ac F r σ₁=some (ys,σ')→R (z.toList++ys)):R o:=
  oP h fun z σ₁ h1 h=>oM h fun q h2 e=>by
    obtain⟨ys,σ₂⟩:=q
    obtain⟨rfl,rfl⟩:=Prod.mk.inj e
    have:=j z σ₁ ys h1 h2
    cases z with
    |none=>exact this
    |some m=>exact this
theorem DB{elt:E}{p:P}{cond:Option E}{x:V}{z:Option M}{R:Prop}(h:bu G Φ elt p cond x σ=some (z,σ'))(j:∀σ₁ b σ₂,ey p x σ=some σ₁→evC G Φ cond σ₁=some (b,σ₂)→(b=false→z=none∧σ'=jk p σ₂)→(b=true→∃m σ₃,ev G Φ elt σ₂=some (m,σ₃)∧ga elt m=true∧z=some m∧σ'=jk p σ₃)→R):R:=
  oB h fun σ₁ h1 h=>oP h fun b σ₂ h2 h=>by
    refine j σ₁ b σ₂ h1 h2 (fun e=>?_) fun e=>?_
    · subst e
      obtain⟨rfl,rfl⟩:=Prod.mk.inj (Option.some.inj h)
      exact⟨rfl,rfl⟩
    · subst e
      exact oP h fun m σ₃ h3 h=>oI h fun hok e=>by
        obtain⟨rfl,rfl⟩:=Prod.mk.inj (Option.some.inj e)
        exact⟨m,σ₃,h3,hok,rfl,rfl⟩
end
end Mine.Internal
end
section
namespace Mine.Internal
open PySem PySem.W PySem.Calls PyProof.Rows
structure CS (C:Cx) (Φ:Phi) (d:Nat) (k k':Kx) (elt:E) (p:P) (cond:Option E) (t e:PySem.Expr) (ifs:List PySem.Expr) (y:Y) (c steady:Bool) (wr:List Addr) (L:Addr) (total:List M):Prop where
  hn:k'.a.n1=k.a.n1
  hB:Bud k'.A d
  S₂:SE C Φ d elt
  S₃:∀c,cond=some c→ST C Φ d c
  hcp:eM k'.a.sx p t=true
  hce:af C.G.io k'.a.sx elt e=true
  hcc:jY C.G.io k'.a.sx cond ifs=true
  hlo:∀i∈p.stores,k.a.n1≤i
  calm:c=true→elt.calm C.G.io=true∧E.calmO C.G.io cond=true
  st:steady=false→elt.calm C.G.io=true∧E.calmO C.G.io cond=true
  wr:∀b∈wr,y.may c b
  L:y.may c L
  D:y.may c k'.a.env.locals
  os:∀i∈p.stores,y.os[i]?=some []
  big:total.length≤big
structure CL (C:Cx) (k k':Kx) (p:P) (y:Y) (σ:List M) (c steady:Bool) (wr rest fp:List Addr) (os₀:List (List Addr)) (I:Nat→Y→List Addr→Prop) (L:Addr) (F:V→List M→Option (Option M×List M)) (vs:List V) (total σe:List M) (j:Nat) (y₁:Y) (σ₁:List M) (fs fa:List Addr) (va:Array Value) (ys:List M):Prop where
  go:In C k k' p.stores y σ c y₁ σ₁ (wr++(fs++(rest++(L::fa))))
  kp:Kept C wr rest fp os₀.flatten steady (fun y=>I j y fs) L va ys fa y₁
  os:steady=false→y₁.os=os₀
  und:∀i∈p.stores,σ₁[i]?=some M.undef
  tot:∃ys',ac F (vs.drop j) σ₁=some (ys',σe)∧ys++ys'=total
section
variable {C:Cx} {Φ:Phi} {d:Nat} {k k':Kx} {elt:E} {p:P} {cond:Option E} {t e:PySem.Expr} {ifs:List PySem.Expr} {y y₁ y₂:Y} {σ σ₁ σ₂ total σe ys:List M} {wr rest fp fs fa:List Addr} {os₀:List (List Addr)} {c steady:Bool} {I:Nat→Y→List Addr→Prop} {L:Addr} {vs:List V} {va:Array Value} {j:Nat} {it:Value} {P:Shared→Prop} {F:V→List M→Option (Option M×List M)}
theorem ou{xs:List M}(D:Feed C k'.A t it wr fp xs I)(os:∀i∈p.stores,y.os[i]?=some [])(hl:∀i∈p.stores,i<σ₂.length∧(steady=false→os₀[i]?=some []))(I₂:In C k k' p.stores y σ c y₂ σ₂ (wr++(fs++(rest++(L::fa)))))(K:Kept C wr rest fp os₀.flatten steady (fun y=>I j y fs) L va ys fa y₂)(ho:steady=false→y₂.os=os₀)(ht:∃ys',ac F (vs.drop j) (jk p σ₂)=some (ys',σe)∧ys++ys'=total)
    (h:∀y₃ σ₃ fa va ys,CL C k k' p y σ c steady wr rest fp os₀ I L F vs total σe j y₃ σ₃ fs fa va ys→P y₃.s):P y₂.s:=by
  obtain⟨os',I₃,e₃⟩:=In.clr_.1 p (fun i hi=>⟨hi,os i hi⟩) I₂
  exact h (y₂.va y₂.ρ os') _ _ _ _ ⟨I₃,K.step D (.up rfl fun _ h=>h) fun _=>.up rfl fun _ h=>h,fun h=>(e₃ fun i hi=>ho h▸(hl i hi).2 h).trans (ho h),fun i hi=>(Dz.1 p σ₂).on i (hl i hi).1 hi,ht⟩
theorem tb{xs:List M}{x:V}{v:Value}(X:CS C Φ d k k' elt p cond t e ifs y c steady wr L total)(D:Feed C k'.A t it wr fp xs I)(H:CL C k k' p y σ c steady wr rest fp os₀ I L (bu C.G Φ elt p cond) vs total σe j y₁ σ₁ fs fa va ys)(hx:vs[j]?=some x)(fd:Fed y₁ y₂ wr)(r:aV C y₂ v x)(hI:I (j+1) y₂ fs)
    (h:∀y₃ σ₃ fa va ys,CL C k k' p y σ c steady wr rest fp os₀ I L (bu C.G Φ elt p cond) vs total σe (j+1) y₃ σ₃ fs fa va ys→P y₃.s):zR C k' t e ifs L P v y₂.s:=by
  obtain⟨ys',hrows,htot⟩:=H.tot
  rw[fh hx]at hrows
  have T₂:=(H.go.st.fed fd).2
  have I₂:=H.go.fed fd X.wr
  have nil:∀i∈p.stores,y₁.os[i]?=some []:=fun i hi=>H.go.st.vars.und i (H.und i hi)
  have mT:∀{b},b∈L::fa→b∈k'.a.fr++(y₁.os.flatten++((fs++(rest++(L::fa)))++k'.X)):=fun hb=>List.mem_append_right _ (List.mem_append_right _ (List.mem_append_left _ (List.mem_append_right _ (List.mem_append_right _ hb))))
  have K₂:Kept C wr rest fp os₀.flatten steady (fun y=>I (j+1) y fs) L va ys fa y₂:=⟨hI,m8 H.kp.fp fd.mv.fsub,d4 H.kp.lst (T₂.own L (mT (.head _))),H.kp.acc.stay (T₂.sub fun b hb=>mT (.tail _ hb))⟩
  revert htot
  refine BK hrows fun z σ₃ ys' hrow hrest htot=>DB hrow fun σ₂ b σ₄ hb he hf ht=>?_
  refine In.bind X.hB.handled X.hn X.hlo X.D (fun i hi=>fd.os▸nil i hi) X.hcp hb I₂ r fun y₃ I₃ e₃ T₃=>?_
  have ho₃:steady=false→y₃.os=os₀:=fun h=>e₃.trans (fd.os.trans (H.os h))
  have K₃:=K₂.step D (T₃.sub fun b hb=>List.mem_append_left _ hb) fun h=>T₃.sub fun b hb=>List.mem_append_right _ ((fd.os.trans (H.os h)).symm▸hb)
  refine pW (k:=k'.on (wr++(fs++(rest++(L::fa))))) X.S₃ I₃.st X.hB X.hcc he fun y₄ R₄=>?_
  have I₄:=I₃.run X.hn R₄ fun h=>(X.calm h).2
  have K₄:=K₃.run D R₄ I₃.st fun h=>(X.st h).2
  have ho₄:steady=false→y₄.os=os₀:=fun h=>(R₄.calm (X.st h).2).2.2.trans (ho₃ h)
  have hl:∀{y₅:Y} {σ₅:List M} {N},In C k k' p.stores y σ c y₅ σ₅ N→∀i∈p.stores,i<σ₅.length∧(steady=false→os₀[i]?=some []):=fun I₅ i hi=>⟨(I₅.st.vars.lenV.symm.trans H.go.st.vars.lenV)▸bL (H.und i hi),fun h=>H.os h▸nil i hi⟩
  cases b with
  |false=>
    obtain⟨rfl,rfl⟩:=hf rfl
    exact ou D X.os (hl I₄) I₄ K₄ ho₄ ⟨ys',hrest,htot⟩ h
  |true=>
    obtain⟨m,σ₅,hm,hok,rfl,rfl⟩:=ht rfl
    have S₂:SE C Φ d elt:=X.S₂
    refine S₂ (k:=k'.on (wr++(fs++(rest++(L::fa))))) I₄.st X.hB X.hce hm fun u y₅ N₅ R₅ r₅=>?_
    have K₅:=K₄.run D R₅ I₄.st fun h=>(X.st h).1
    have htot':(ys++[m])++ys'=total:=(List.append_assoc ys [m] ys').trans htot
    have hlen:ys.length≤big:=Nat.le_trans (by rw[←htot,List.length_append];exact Nat.le_add_right _ _) X.big
    refine wpAny_list_append_plain K₅.lst (fun h' hp hs=>?_) (K₅.acc.size▸lW hlen)
    have fd':=Fed.mk0 (y:=y₅) (wr:=[L]) (a7 (t:=y₅.s.toks) hs) fun b hb=>List.mem_singleton.mp hb▸hp.elim fun _ ho=>⟨_,ho⟩
    have I₅:In C k k' p.stores y σ c y₅ σ₅ ([L]++(wr++(fs++(rest++(fa++N₅))))):=(I₄.run X.hn R₅ fun h=>(X.calm h).1).perm (pm [N₅,wr,fs,rest,[L],fa] (.a t0 (.a t1 (.a t2 (.a t3 (.a t4 t5))))) (.a t4 (.a t1 (.a t2 (.a t3 (.a t5 t0))))) rfl)
    have T₆:=((I₅.st.fed fd').2).sub (O':=(wr++(fs++(rest++(fa++N₅))))++y₅.os.flatten) fun b hb=>(List.mem_append.mp hb).elim (fun q=>List.mem_append_right _ (List.mem_append_right _ (List.mem_append_left _ q))) fun q=>List.mem_append_right _ (List.mem_append_left _ q)
    have I₆:In C k k' p.stores y σ c (y₅.to { y₅.s with heap:=h' }) σ₅ (wr++(fs++(rest++(L::(fa++N₅))))):=(I₅.fed fd' fun b hb=>List.mem_singleton.mp hb▸X.L).perm (pm [N₅,wr,fs,rest,[L],fa] (.a t4 (.a t1 (.a t2 (.a t3 (.a t5 t0))))) (.a t1 (.a t2 (.a t3 (.a t4 (.a t5 t0))))) rfl)
    have ho₅:steady=false→y₅.os=os₀:=fun h=>(R₅.calm (X.st h).1).2.2.trans (ho₄ h)
    have T₇:Stay y₅ (y₅.to { y₅.s with heap:=h' }) (wr++(fs++(rest++(fa++N₅)))):=T₆.sub fun b hb=>List.mem_append_left _ hb
    have mA':∀{b},b∈fa++N₅→b∈wr++(fs++(rest++(fa++N₅))):=fun hb=>List.mem_append_right _ (List.mem_append_right _ (List.mem_append_right _ hb))
    refine ou D X.os (hl I₆) I₆ ⟨rU D K₅.fp (T₇.sub fun b hb=>(List.mem_append.mp hb).elim (List.mem_append_left _) fun hb=>List.mem_append_right _ ((List.mem_append.mp hb).elim (List.mem_append_left _) fun hb=>List.mem_append_right _ (List.mem_append_left _ hb))) (fun h=>T₆.sub fun b hb=>List.mem_append_right _ ((ho₅ h).symm▸hb)) K₅.it,m8 K₅.fp fun _ h=>h,hp,?_⟩ ho₅ ⟨ys',hrest,htot'⟩ h
    rw[Array.toList_push,←List.append_nil N₅]
    exact(K₅.acc.stay (T₇.sub fun b hb=>mA' (List.mem_append_left _ hb))).append (aw.cons ((r₅.own hok).stay (T₇.sub fun b hb=>mA' (List.mem_append_right _ hb))) ⟨rfl,rfl⟩)
end
end Mine.Internal
end
section
namespace Mine.Internal
open PySem PySem.W PySem.Calls PyProof.Rows
section
variable {C:Cx} {Φ:Phi} {d:Nat} {k k':Kx} {elt:E} {p:P} {cond:Option E} {src:Src} {t e:PySem.Expr} {ifs:List PySem.Expr} {y y₁ y₂:Y} {σ σ' σ₁ σ₂ total σe ys:List M} {wr rest fp fs fa N:List Addr} {os₀:List (List Addr)} {c steady:Bool} {I:Nat→Y→List Addr→Prop} {L:Addr} {vs:List V} {va:Array Value} {j:Nat} {it:Value} {F:V→List M→Option (Option M×List M)} {m:M}
theorem tc{s:Shared}{R:Shared→Prop}(hw:∀b∈wr,y.may c b)(hb:total.length≤big)(H:CL C k k' p y σ c steady wr rest fp os₀ I L F vs total σe vs.length y₁ σ₁ fs fa va ys)(mv:Mv y₁ (y₁.to s) wr)(done:∀y₂ N,In C k k' p.stores y σ c y₂ σe N→ag C y₂ (.ref L) (bF total) N→(∀i∈p.stores,σe[i]?=some M.undef)→R y₂.s):R s:=by
  obtain⟨ys',h,htot⟩:=H.tot
  rw[List.drop_length]at h
  obtain⟨rfl,rfl⟩:=Prod.mk.inj (Option.some.inj (show some ([],σ₁)=some (ys',σe)from h))
  obtain rfl:ys=total:=(List.append_nil ys).symm.trans htot
  have T:=(H.go.st.letgo mv).2
  have mT:∀{b},b∈L::fa→b∈k'.a.fr++(y₁.os.flatten++((fs++(rest++(L::fa)))++k'.X)):=fun hb=>List.mem_append_right _ (List.mem_append_right _ (List.mem_append_left _ (List.mem_append_right _ (List.mem_append_right _ hb))))
  exact done (y₁.to s) (L::fa) ((H.go.letgo mv hw).drop ((List.sublist_append_right rest _).trans (List.sublist_append_right fs _))) (lM (H.kp.acc.stay (T.sub fun b hb=>mT (.tail _ hb))) (d4 H.kp.lst (T.own L (mT (.head _)))) hb) H.und
theorem td{iter:PySem.Expr}{sc:Scope}{pos:Pos}{R:Result→Shared→Prop}(X:CS C Φ d k k' elt p cond t e ifs y c steady wr L total)(D:Feed C k'.A t it wr fp (vs.map .v) I)(H:CL C k k' p y σ c steady wr rest fp os₀ I L (bu C.G Φ elt p cond) vs total σe 0 y₁ σ₁ fs fa va ys)(done:∀y₂ N,In C k k' p.stores y σ c y₂ σe N→ag C y₂ (.ref L) (bF total) N→(∀i∈p.stores,σe[i]?=some M.undef)→R (.ok .next) y₂.s):
    codeAny (model C.cl.prog C.cl.w) k'.A (.compLoop (.ListComp e [⟨t,iter,ifs,0⟩] sc pos) 0 it (.ref L) k'.a.env) R y₁.s:=by
  refine vF (fun n s=>FI vs.length (fun j y₁ fs=>∃σ₁ fa va ys,CL C k k' p y σ c steady wr rest fp os₀ I L (bu C.G Φ elt p cond) vs total σe j y₁ σ₁ fs fa va ys) n s) (fun n s h=>?_) vs.length ⟨0,y₁,fs,rfl,rfl,_,_,_,_,H⟩
  refine Du h (fun y₂ fs ⟨σ₂,fa,va,ys,H⟩=>?_) fun n j y₂ fs hn ⟨σ₂,fa,va,ys,H⟩=>?_
  · exact D.done ((List.length_map (as:=vs) M.v).symm▸H.kp.it) fun s' mv=>tc X.wr X.big H mv done
  · have hx:=List.getElem?_eq_getElem (show j<vs.length from hn▸Nat.lt_add_of_pos_left (Nat.succ_pos n))
    refine wpAny_mono (D.item (x:=.v vs[j]) (by rw[List.getElem?_map,hx];rfl) H.kp.it H.go.st.wr_off fun v y' f1 f2 e fd rx hI'=>?_) (fun r s₁ h=>by obtain⟨v,rfl,h⟩:=h;exact h) fun _ _ x=>x
    obtain⟨rfl,rx⟩:=rx
    obtain rfl:fs=f2:=e
    exact tb X D H hx fd rx hI' fun y₃ σ₃ fa va ys H₃=>rS hn ⟨y₃,fs,rfl,_,_,_,_,H₃⟩
theorem oIn{α:Type}{b:Bool}{x:Option α}{r:α}{R:Prop}(h:(if(!b)=true then none else x)=some r)(k:b=true→x=some r→R):R:=by
  cases b with
  |false=>cases h
  |true=>exact k rfl h
@[elab_as_elim] theorem rV{G:Tab}{R:M→Prop}(h:ev G Φ (.comp elt p src cond) σ=some (m,σ'))(j:∀vs σ₁ ys,gD p σ=true→evS G Φ (!(elt.calm G.io&&E.calmO G.io cond)) src σ=some (vs.map .v,σ₁)→ac (bu G Φ elt p cond) vs σ₁=some (ys,σ')→ys.length≤big→R (bF ys)):R m:=
  oIn (b:=gD p σ) h fun hu h=>oP h fun xs σ₁ hs h=>oB h fun vs hv h=>oP h fun ys σ₂ hr h=>oI h fun hb e=>by
    obtain⟨rfl,rfl⟩:=Prod.mk.inj (Option.some.inj e)
    exact j vs σ₁ ys hu (gP hv▸hs) hr hb
structure LcOk (a:Act) (p:P) (sc:Scope) (it:PySem.Expr):Prop where
  kind:sc.kind=.function
  cs:a.cs=none
  names:∀y∈sc.names,sc.names.lookup y.1=some y.2∧y.2≠.cell∧(y.2=.free→a.sx.isCell y.1=true)
  set:lH it=false
  nd:((a.vs.take p.hi).drop p.lo).Nodup
  all:∀i,p.lo≤i→i<p.hi→i∈p.stores
  hi:p.hi≤a.vs.length
theorem orR{a b:Bool}(h:(a||b)=true)(n:a=false):b=true:=by subst n;exact h
theorem BL{a:Act}{sc:Scope}{it:PySem.Expr}(h:Ai a.sx p sc it=true):LcOk a p sc it:=by
  obtain⟨h,h7⟩:=a2_ h
  obtain⟨h,h6⟩:=a2_ h
  obtain⟨h,h5⟩:=a2_ h
  obtain⟨h,h4⟩:=a2_ h
  obtain⟨h1,h2,h3⟩:=a3_ h
  exact⟨dec h1,Option.isNone_iff_eq_none.mp h2,fun y hy=>have q:=List.all_eq_true.mp h3 y hy;⟨dec (a3_ q).1,dec (a3_ q).2.1,fun w=>orR (a3_ q).2.2 (decide_eq_false fun n=>n w)⟩,nt h4,dec h5,fun i q1 q2=>List.contains_iff_mem.mp (orR (List.all_eq_true.mp h6 i (List.mem_range.mpr q2)) (decide_eq_false (Nat.not_lt.mpr q1))),dec h7⟩
theorem Run.may{b:Addr}(R:Run C k y σ c y₁ σ₁ N)(hb:b∈N):y.may c b:=by
  refine(R.dirt b (.inr hb)).imp (fun q=>?_) id
  cases c with
  |false=>exact q
  |true=>exact nd (List.nodup_append.mp R.st.ht.nodup).2.1 ((R.calm rfl).2.2▸q) (List.mem_append_left _ hb)
theorem ow{G:Tab}(h:(E.comp elt p src cond).calm G.io=true):src.calm G.io=true∧elt.calm G.io=true∧E.calmO G.io cond=true:=have q:=a3_ h;⟨q.2.1,q.1,q.2.2⟩
theorem ya{a b:Bool}(h:(!(a&&b))=false):a=true∧b=true:=by cases a<;>cases b<;>first|exact⟨rfl,rfl⟩|exact absurd h Bool.noConfusion
noncomputable def DC(C:Cx)(k:Kx)(y:Y)(σ:List M)(c:Bool)(m:M)(σ':List M)(R:Value→Addr→Result→Shared→Prop):Prop:=∀L D y' N,Run C k y σ c y' σ' (D::N)→y.may c D→ag C y' (.ref L) m N→(∃mm,y'.h.Ns D mm)→R (.ref L) D (.ok .next) y'.s
theorem pX{iv:Value}{it:PySem.Expr}{sc:Scope}{pos:Pos}{cl:List (ae×Addr)}{R:Value→Addr→Result→Shared→Prop}(S₂:SE C Φ d elt)(S₃:∀c,cond=some c→ST C Φ d c)(S:St C k y σ)(hB:Bud k.A d)(X:LcOk k.a p sc it)(hcl:Clos k.a.env sc.names cl)(hlo:k.a.n1≤p.lo)(h1:eM (jX k.a.sx p sc) p t=true)(h2:af C.G.io (jX k.a.sx p sc) elt e=true)(h3:jY C.G.io (jX k.a.sx p sc) cond ifs=true)
    (hu:gD p σ=true)(hr:ac (bu C.G Φ elt p cond) vs σ₁=some (ys,σ'))(hb:ys.length≤big)(R₁:Run C k y σ (src.calm C.G.io) y₁ σ₁ (wr++(fs++rest)))(D:Feed C k.A t iv wr fp (vs.map .v) I)(I0:I 0 y₁ fs)(hfp:∀b∈fp,b∈wr∨nZ y₁ (!(elt.calm C.G.io&&E.calmO C.G.io cond)) rest b)(hq:DC C k y σ ((E.comp elt p src cond).calm C.G.io) (bF ys) σ' R)
    {h₁:Heap}{tk:Nat}(hns:∃m,h₁.Ns (y₁.push (newL [])).h.objs.size m)(hold:∀b o,(y₁.push (newL [])).h.get? b=some o→h₁.get? b=some o):
    codeAny (model C.cl.prog C.cl.w) k.A (.compStart (.ListComp e [⟨t,it,ifs,0⟩] sc pos) 0 iv (.ref y₁.h.objs.size) (compEnvC sc cl (y₁.push (newL [])).h.objs.size k.a.env)) (R (.ref y₁.h.objs.size) (y₁.push (newL [])).h.objs.size) { y₁.s with heap:=h₁,toks:=tk }:=by
  have hund:=Dy.1 p hu
  have mv:Mv (y₁.push (newL [])) ((y₁.push (newL [])).to { y₁.s with heap:=h₁,toks:=tk }) []:=bI (y:=y₁.push (newL [])) hold
  have R₂:Run C k y σ (src.calm C.G.io) ((y₁.push (newL [])).to { y₁.s with heap:=h₁,toks:=tk }) σ₁ ((y₁.push (newL [])).h.objs.size::(wr++(fs++(rest++[y₁.h.objs.size])))):=((R₁.push (newL []) rfl).new1 mv (d6 _) (hns.elim fun _ ⟨o,_,_,ho,_⟩=>⟨o,ho⟩)).perm (pm [[(y₁.push (newL [])).h.objs.size],[y₁.h.objs.size],wr,fs,rest] (.a t0 (.a t1 (.a t2 (.a t3 t4)))) (.a t0 (.a t2 (.a t3 (.a t4 t1)))) rfl)
  have hc:(E.comp elt p src cond).calm C.G.io=true→src.calm C.G.io=true:=fun h=>(ow h).1
  have R₃:=R₂.mono hc
  have hE:EnvOk (d8 k.a sc p cl (y₁.push (newL [])).h.objs.size):=vB k.hE X.kind (fun y hy=>(X.names y hy).2.1) hcl (fun q=>nd R₂.st.ht.nodup q (List.mem_append_right _ (.head _))) X.nd X.hi
  have I₁:In C k (k.cm sc p cl _ hE) p.stores y σ ((E.comp elt p src cond).calm C.G.io) ((y₁.push (newL [])).to { y₁.s with heap:=h₁,toks:=tk }) σ₁ (wr++(fs++(rest++[y₁.h.objs.size]))):=In.enter hcl (fun y hy=>(X.names y hy).2.1) R₂ hc hns fun i q1 q2=>R₁.und i (hund i (X.all i q1 q2))
  have esx:(k.cm sc p cl _ hE).a.sx=jX k.a.sx p sc:=x_ k.hE
  have T:Stay y₁ ((y₁.push (newL [])).to { y₁.s with heap:=h₁,toks:=tk }) fs:=(cn y₁ (newL [])).stay0.trans mv.stay0
  have hlo':∀i∈p.stores,k.a.n1≤i:=fun i hi=>Nat.le_trans hlo (P.lo_le_.1 p i hi).1
  have H:CL C k (k.cm sc p cl _ hE) p y σ ((E.comp elt p src cond).calm C.G.io) (!(elt.calm C.G.io&&E.calmO C.G.io cond)) wr rest fp y₁.os I y₁.h.objs.size (bu C.G Φ elt p cond) vs ys σ' 0 ((y₁.push (newL [])).to { y₁.s with heap:=h₁,toks:=tk }) σ₁ fs [] #[] []:=
    ⟨I₁,⟨D.frame I0 (fun b _ o e=>hold b o (Heap.get?_push_of_some _ e)) T,hfp,⟨0,hold _ _ (cO y₁ (newL []) rfl)⟩,⟨rfl,rfl⟩⟩,fun _=>rfl,fun i hi=>R₁.und i (hund i hi),ys,hr,rfl⟩
  have CX:CS C Φ d k (k.cm sc p cl _ hE) elt p cond t e ifs y ((E.comp elt p src cond).calm C.G.io) (!(elt.calm C.G.io&&E.calmO C.G.io cond)) wr y₁.h.objs.size ys:=
    ⟨rfl,hB,S₂,S₃,esx▸h1,esx▸h2,esx▸h3,hlo',fun h=>(ow h).2,ya,fun b hb=>R₃.may (.tail _ (mW hb)),R₃.may (.tail _ (mA (.head _))),R₃.may (.head _),fun i hi=>S.vars.und i (hund i hi),hb⟩
  have loop:=td (k':=k.cm sc p cl _ hE) (iter:=it) (sc:=sc) (pos:=pos) (R:=R (.ref y₁.h.objs.size) (y₁.push (newL [])).h.objs.size) CX D H fun y₂ N I₂ r hu₂=>(In.out X.cs S (fun i hi=>⟨hlo' i hi,hund i hi,hu₂ i hi⟩) CX.D I₂).elim fun ρ R₄=>hq _ _ (y₂.va ρ y₂.os) N R₄ CX.D (r.stay (.up rfl fun _ h=>h)) I₂.st.vars.ns
  exact codeAny_compStart_list loop (D.self H.kp.it loop)
end
end Mine.Internal
end
section
namespace Mine.Internal
open PySem PySem.W PySem.Calls PyProof.Rows
section
variable {C:Cx} {Φ:Phi} {d:Nat} {k k':Kx} {elt:E} {p:P} {cond:Option E} {src:Src} {y y':Y} {σ σ':List M} {N:List Addr} {c:Bool} {m:M} {D:Addr}
noncomputable def CGo(C:Cx)(k:Kx)(y:Y)(σ:List M)(c:Bool)(m:M)(σ':List M)(sc:Scope)(p it:PySem.Expr):Prop:=∀pos' use Q,
  DC C k y σ c m σ' (compPost (model C.cl.prog C.cl.w) k.A (fun _ _=>False) use Q)→W C k (comprehension p sc k.a.env pos' (newList []) false (eval it k.a.env) use) Q y.s
theorem l6{pe:PySem.Expr}{R:M→PySem.Expr→Prop}(S₁:SI C Φ d src)(S₂:SE C Φ d elt)(S₃:∀c,cond=some c→ST C Φ d c)(S:St C k y σ)(hB:Bud k.A d)(hc:af C.G.io k.a.sx (.comp elt p src cond) pe=true)(he:ev C.G Φ (.comp elt p src cond) σ=some (m,σ'))
    (j:∀e t it ifs sc z m,CGo C k y σ ((E.comp elt p src cond).calm C.G.io) m σ' sc (.ListComp e [⟨t,it,ifs,0⟩] sc z) it→R m (.ListComp e [⟨t,it,ifs,0⟩] sc z)):R m pe:=by
  refine rV (R:=fun m=>R m pe) he fun vs σ₁ ys hu hs hr hb=>xb hc fun e t it ifs sc z h1 h2 h3 h4 h5 h6 h7=>j e t it ifs sc z _ fun pos' use Q hq=>?_
  have X:=BL h1
  obtain⟨cl,hcl,hcl'⟩:=x3 fun y hy q=>vC k.hE ((X.names y hy).2.2 q)
  refine wpAny_comprehension_free rfl (vp X.set) hcl X.kind (fun y hy q=>by rw[(X.names y hy).1,q]) (S₁ S hB h2 (oj h3 h5) hs fun iv y₁ wr fs rest fp I R₁ D I0 hfp=>?_)
  exact wpAny_newObj_type (wpAny_newFunctionEnv (fun x hx=>(X.names x hx).2.1) nin (fun h₁ hns hsb=>pX S₂ S₃ S hB X hcl' h4 h5 h6 h7 hu hr hb R₁ D I0 hfp hq ⟨_,hns⟩ fun b o e=>hsb.extBut b o (Nat.ne_of_lt (Heap.lt_size e)) (Heap.get?_push_of_some _ e)) X.kind)
theorem vG{s:Shared}{h':Heap}(hs:Heap.SameBut D s.heap h')(e:s=y.s):Mv y (y.to { s with heap:=h' }) [D]:=by
  subst e
  exact a7 (t:=y.s.toks) hs
theorem rW(S₁:SI C Φ d src)(S₂:SE C Φ d elt)(S₃:∀c,cond=some c→ST C Φ d c):SE C Φ d (.comp elt p src cond):=fun{k y σ pe m σ' Q} S hB hc he=>
  l6 (R:=fun m pe=>d5 C k y σ _ _ m σ' Q→W C k (eval pe k.a.env) Q y.s) S₁ S₂ S₃ S hB hc he fun e t it ifs sc z m h hq=>by
    rw[eval_ListComp]
    refine h _ none _ fun L D y' N R hD r ⟨mm,hns⟩=>⟨mm,hns,fun h' hs=>?_⟩
    have mv:Mv y' (y'.to { y'.s with heap:=h' }) [D]:=vG hs rfl
    obtain⟨S',T⟩:=St.letgo (wr:=[D]) (r:=N) R.st mv
    exact hq _ (y'.to { y'.s with heap:=h' }) N ⟨R.mv.trans mv fun b hb=>List.mem_singleton.mp hb▸hD,S',R.calm,R.rho,fun b hb=>R.dirt b (hb.imp id (.tail _)),R.und⟩ (.inl (r.stay (T.sub fun b hb=>List.mem_append_right _ (List.mem_append_right _ (List.mem_append_left _ hb)))))
theorem ox{t:T}(S₁:SI C Φ d src)(S₂:SE C Φ d elt)(S₃:∀c,cond=some c→ST C Φ d c)(S₄:SST C Φ d t):SS C Φ d (.asg t (.comp elt p src cond)):=fun{k y σ st fl σ' Q} S hcs hB hc he=>ut hc fun u pe pos c1 c2 c3 hq=>by
  have plain:swapsWithSole [u] pe pos.line k.a.env=pure false→swappedStores [u] pe k.a.env=pure none→W C k (exec (.Assign [u] pe pos) k.a.env) Q y.s:=fun hs hw=>lZ (rW S₁ S₂ S₃) S₄ hs hw S hB c1 c2 he hq
  revert hq plain
  refine pT he fun m σ₁ σ₂ h1 hok h2 hq=>?_
  revert h2
  refine l6 (R:=fun m pe=>store C.G Φ t m σ₁=some σ₂→(swapsWithSole [u] pe pos.line k.a.env=pure false→swappedStores [u] pe k.a.env=pure none→W C k (exec (.Assign [u] pe pos) k.a.env) Q y.s)→W C k (exec (.Assign [u] pe pos) k.a.env) Q y.s) S₁ S₂ S₃ S hB c2 h1 fun e tt it ifs sc z m h h2 plain=>?_
  cases u with
  |Name x px=>
    obtain⟨b,hb⟩:∃b,swapsWith (.ListComp e [⟨tt,it,ifs,0⟩] sc z) (some (.Name x px)) pos.line k.a.env=pure b:=⟨_,rfl⟩
    cases b with
    |false=>exact plain hb rfl
    |true=>
      rw[exec_Assign_Name_used _ _ _ _ hb]
      refine wpAny_bind (wpAny_standAt (wpAny_bind ?_))
      show wpAny _ k.A (do let _ ←comprehension (.ListComp e [⟨tt,it,ifs,0⟩] sc z) sc k.a.env _ (newList []) false (eval it k.a.env) (some (assign (.Name x px) k.a.env))) _ _ y.s
      refine wpAny_bind (wpAny_mono (h _ (some (assign (.Name x px) k.a.env)) (fun _ s'=>Q .next s') fun L D y' N R hD r ⟨mm,hns⟩=>?_) (fun _ s' hq=>wpAny_pure (wpAny_pure hq)) fun _ _ e=>e)
      refine S₄ (N:=[D]) hB c1 h2 (R.go.perm (List.perm_append_comm (l₁:=[D]))) r fun y₂ G T=>⟨mm,?_,fun h' hs=>?_⟩
      · obtain⟨o,es,ep,ho,q⟩:=hns
        exact⟨o,es,ep,T.own D (.head _) o ho,q⟩
      · have mv:Mv y₂ (y₂.to { y₂.s with heap:=h' }) [D]:=vG hs rfl
        exact hq (y₂.to { y₂.s with heap:=h' }) (Go.letgo (wr:=[D]) (r:=[]) G mv)
  |_=>exact plain rfl rfl
end
end Mine.Internal
end
section
namespace Mine.Internal
open PySem PySem.W PySem.Calls PyProof.Rows
section
variable {C:Cx} {Φ:Phi} {d:Nat}
noncomputable def NB(m:M):Prop:=∀b,m.bool?=some b→False
theorem nbi(i:Int):NB (.v (.int i)):=fun _ h=>ns h
theorem nbl(l:List V):NB (.lst l):=fun _ h=>ns h
theorem dy{e:E}(h:∀(σ:List M) (m:M) (σ':List M),ev C.G Φ e σ=some (m,σ')→NB m):ST C Φ d e:=fun _ _ _ he hb _=>(h _ _ _ he _ hb).elim
theorem st0{G:Tab}(σ:List M)(m:M)(σ':List M)(h:ev G Φ .none σ=some (m,σ')):NB m:=(Prod.mk.inj (Option.some.inj (show some (M.v .none,σ)=some (m,σ')from h))).1▸fun _ h=>ns h
theorem sti{G:Tab}(i:Int)(σ:List M)(m:M)(σ':List M)(h:ev G Φ (.int i) σ=some (m,σ')):NB m:=(Prod.mk.inj (Option.some.inj (show some (M.v (.int i),σ)=some (m,σ')from h))).1▸nbi i
theorem sts{G:Tab}(i:String)(σ:List M)(m:M)(σ':List M)(h:ev G Φ (.str i) σ=some (m,σ')):NB m:=(Prod.mk.inj (Option.some.inj (show some (M.v (.str i),σ)=some (m,σ')from h))).1▸fun _ h=>ns h
theorem vH{m:M}{b:Bool}(h:m.toV=some (.bool b)):m=.v (.bool b):=by
  cases m with
  |v x=>exact congrArg M.v (Option.some.inj h)
  |undef=>exact ns h
  |lst l=>exact absurd (Option.some.inj h) nofun
  |dct fs=>exact ns h
  |tup l=>exact oM (o:=M.toVs l) h fun _ _ e=>nomatch e
  |lstM l=>exact oM (o:=M.toVs l) h fun _ _ e=>nomatch e
  |obj c fs=>exact oM (o:=M.toVf fs) h fun _ _ e=>nomatch e
theorem BM{e:E}(S₁:ST C Φ d e):ST C Φ d (.frz e):=fun{k y σ p m σ' b Q} S hB hc he=>uI (R:=fun m=>m.bool?=some b→_) he fun m₁ x h1 hs hx hb hq=>by
  obtain rfl:=M.v.inj (cN hb)
  obtain rfl:=vH hx
  exact S₁ S hB (um hc) h1 rfl hq
theorem stv(i:Nat):ST C Φ d (.var i):=bH (uu i) fun p x hc=>iD hc fun _ _ _ _ _=>rfl
theorem BN(i:Nat):ST C Φ d (.mov i):=bH (uv i) fun p x hc=>ui hc fun _ _ _ _ _=>rfl
theorem yb(FC:Facts C)(g:String):ST C Φ d (.glob g):=bH (rj FC g) fun p x hc=>qW hc fun _ _ _ _ _=>rfl
theorem yc(b:Bool):ST C Φ d (.bool b):=bH (ri b) fun p x hc=>qV hc fun _ _ _ _=>rfl
theorem yd{e:E}{n:String}(S₁:SE C Φ d (.attr e n)):ST C Φ d (.attr e n):=bH S₁ fun p x hc=>jt hc fun _ _ _ _ _ _ _=>rfl
theorem stu{e i:E}(S₁:SE C Φ d (.sub e i)):ST C Φ d (.sub e i):=bH S₁ fun p x hc=>mN hc fun _ _ _ _ _ _ _=>rfl
theorem ye{f:String}{l:List E}(S₁:SE C Φ d (.call f l)):ST C Φ d (.call f l):=bH S₁ fun p x hc=>qY hc fun _ _ _ _ _ _ _ _ _ _=>rfl
theorem DD{f:String}{l:List E}(S₁:SE C Φ d (.bi f l)):ST C Φ d (.bi f l):=bH S₁ fun p x hc=>zt hc fun _ _ _ _ _ _ _ _ _=>rfl
theorem yf{e:E}{c m k:String}{l:List E}(S₁:SE C Φ d (.meth e c m k l)):ST C Φ d (.meth e c m k l):=bH S₁ fun p x hc=>qZ hc fun _ _ _ _ _ _ _ _ _ _ _ _=>rfl
theorem BO{c k:String}{l:List E}(S₁:SE C Φ d (.new c k l)):ST C Φ d (.new c k l):=bH S₁ fun p x hc=>un hc fun _ _ _ _ _ _ _ _ _ _=>rfl
theorem jy{f:Int→Int→Option M}{x y z:M}(h:jH f x y=some z)(hf:∀a b z,f a b=some z→NB z):NB z:=oB (o:=x.int?) h fun a _ h=>oB (o:=y.int?) h fun b _ h=>hf a b z h
theorem vJ{op:Op}{x y z:M}(h:a9 op x y=some z):NB z:=by
  cases op with
  |add=>
    replace h:t8 x y=some z:=h
    unfold t8 at h
    cases e:x.int? with
    |none=>
      rw[e]at h
      exact oB (o:=x.list?) h fun _ _ h=>oB (o:=y.list?) h fun _ _ h=>oM (o:=bG _) h fun _ _ e=>e▸nbl _
    |some i=>
      rw[e]at h
      exact oM (o:=y.int?) h fun _ _ e=>e▸nbi _
  |sub=>exact jy h fun a b z h=>Option.some.inj h▸nbi _
  |mul=>
    refine oB (o:=y.int?) h fun i _ h=>?_
    have gen:(x.int?.bind fun a=>if a.natAbs<2 ^ 40∧i.natAbs<2 ^ 40 then some (.v (.int (a*i)))else none)=some z→NB z:=fun h=>oB (o:=x.int?) h fun a _ h=>oI h fun _ e=>Option.some.inj e▸nbi _
    cases x with
    |lst l=>exact oI h fun _ e=>Option.some.inj e▸nbl _
    |_=>exact gen h
  |fdiv=>exact jy h fun a b z h=>oI h fun _ e=>Option.some.inj e▸nbi _
  |mod=>
    refine jy h fun a b z h=>?_
    by_cases hb:b=0
    · rw[if_pos hb]at h;exact ns h
    · rw[if_neg hb]at h;exact Option.some.inj h▸nbi _
  |pow=>exact jy h fun a b z h=>oI h fun _ e=>Option.some.inj e▸nbi _
theorem vK{l:List M}:NB (jG l):=by unfold jG;cases a5 l<;>exact fun _ h=>ns h
theorem oy{l:List M}:NB (bF l):=by unfold bF;cases a5 l<;>exact fun _ h=>ns h
theorem BP{e:E}(h:∀f σ,bD C.G Φ e f σ=none):SR C Φ d e:=fun{k y σ p f σ' Q} _ _ _ _ he _=>ns ((h f σ).symm.trans he)
noncomputable def RE(C:Cx)(Φ:Phi)(d:Nat)(e:E):Prop:=SB C Φ d e∧SR C Φ d e
noncomputable def RL(C:Cx)(Φ:Phi)(d:Nat)(l:List E):Prop:=SD C Φ d l∧SA C Φ d l∧SL C Φ d .And l∧SL C Φ d .Or l
noncomputable def RO(C:Cx)(Φ:Phi)(d:Nat)(o:Option E):Prop:=SO C Φ d o∧∀c,o=some c→SB C Φ d c
theorem nr{e:E}(h:SB C Φ d e)(hu:∀f σ,bD C.G Φ e f σ=none):RE C Φ d e:=⟨h,BP hu⟩
theorem re(FC:Facts C)(CO:bM C Φ d)(e:E):RE C Φ d e:=by
  refine E.rec (motive_1:=RE C Φ d) (motive_2:=SI C Φ d) (motive_3:=RO C Φ d) (motive_4:=RL C Φ d) (motive_5:=SF C Φ d) (motive_6:=fun p=>SE C Φ d p.2) (nr ⟨xh,dy st0⟩ fun _ _=>rfl) (fun b=>nr ⟨ri b,yc b⟩ fun _ _=>rfl) (fun i=>nr ⟨AE i,dy (sti i)⟩ fun _ _=>rfl) (fun x=>nr ⟨AF x,dy (sts x)⟩ fun _ _=>rfl)
    (fun i=>⟨⟨uu i,stv i⟩,Bn i⟩) (fun i=>nr ⟨uv i,BN i⟩ fun _ _=>rfl) (fun g=>nr ⟨rj FC g,yb FC g⟩ fun _ _=>rfl) (fun e n h=>?_) (fun e i h hi=>?_) (fun e lo hi h h1 h2=>nr ⟨A0 h.1.1 h1.1 h2.1,dy fun _ _ _ h=>uO h fun _ _ _ _ _ _ _ _ _ _ _ _=>nbl _⟩ fun _ _=>rfl)
    (fun op a b h1 h2=>nr ⟨AO h1.1.1 h2.1.1,dy fun _ _ _ h=>uA h fun _ _ _ z _ _ _ hz=>vJ hz⟩ fun _ _=>rfl) (fun a h=>nr ⟨AI h.1.1,dy fun _ _ _ h=>ux h fun _ _=>nbi _⟩ fun _ _=>rfl) (fun a h=>nr ⟨AJ h.1.1,AP h.1.2⟩ fun _ _=>rfl) (fun op a b h1 h2=>nr ⟨AK h1.1.1 h2.1.1,AQ h1.1.1 h2.1.1⟩ fun _ _=>rfl)
    (fun o1 o2 a b c h1 h2 h3=>nr (xu h1.1.1 h2.1.1 h3.1.1) fun _ _=>rfl) (fun l h=>nr (AR h.2.2.1) fun _ _=>rfl) (fun l h=>nr (De h.2.2.2) fun _ _=>rfl) (fun c a b h1 h2 h3=>nr (AS h1.1 h2.1 h3.1) fun _ _=>rfl) (fun e h=>nr ⟨AT h.1.1,BM h.1.2⟩ fun _ _=>rfl)
    (fun l h=>nr ⟨A3 h.1,dy fun _ _ _ h=>uP h fun _ _=>vK⟩ fun _ _=>rfl) (fun l h=>nr ⟨A4 h.1,dy fun _ _ _ h=>uQ h fun _ _=>oy⟩ fun _ _=>rfl) (fun l h=>nr ⟨A6 h,dy fun _ _ _ h=>uR h fun _ _ _ h=>ns h⟩ fun _ _=>rfl)
    (fun f l h=>?_) (fun f l h=>?_) (fun e c m k l h1 h2=>?_) (fun c k l h=>?_) (fun elt p s cond h1 h2 h3=>nr ⟨rW h2 h1.1.1 fun c hc=>(h3.2 c hc).2,dy fun _ _ _ h=>rV h fun _ _ _ _ _ _ _=>oy⟩ fun _ _=>rfl)
    (fun a b h1 h2=>u5 FC (fun e he=>(h1.2 e he).1) h2.1.1) (fun e h=>rJ FC h.1.1) (fun a b h1 h2=>u6 FC h1.1.1 h2.1.1) (fun e h=>zH h.1.1) ⟨xo,nofun⟩ (fun e h=>⟨xp h.1.1,fun c hc=>Option.some.inj hc▸h.1⟩)
    ⟨A2,A7,uG,uG⟩ (fun e r h ih=>⟨xv h.1.1 ih.1,xz h.1.1 ih.2.1,rq h.1 ih.2.2.1,rq h.1 ih.2.2.2⟩) A5 (fun p r h ih=>xw h ih) (fun _ _ h=>h.1.1) e
  · have q:SE C Φ d (.attr e n):=xG FC CO h.1.1
    exact⟨⟨q,yd q⟩,xM FC h.2⟩
  · have q:SE C Φ d (.sub e i):=AY h.1.1 hi.1.1
    exact⟨⟨q,stu q⟩,Bq h.2 hi.1.1⟩
  · have q:SE C Φ d (.call f l):=xE FC CO h.2.1
    exact nr ⟨q,ye q⟩ fun _ _=>rfl
  · have q:SE C Φ d (.bi f l):=Do FC h.2.1
    exact nr ⟨q,DD q⟩ fun _ _=>rfl
  · have q:SE C Φ d (.meth e c m k l):=xI FC CO h1.1.1 h2.2.1
    exact nr ⟨q,yf q⟩ fun _ _=>rfl
  · have q:SE C Φ d (.new c k l):=Bj FC CO h.2.1
    exact nr ⟨q,BO q⟩ fun _ _=>rfl
theorem DE(FC:Facts C)(CO:bM C Φ d)(s:Src):SI C Φ d s:=by
  cases s with
  |rng a b=>exact u5 FC (fun e _=>(re FC CO e).1.1) (re FC CO b).1.1
  |enum e=>exact rJ FC (re FC CO e).1.1
  |zip a b=>exact u6 FC (re FC CO a).1.1 (re FC CO b).1.1
  |it e=>exact zH (re FC CO e).1.1
theorem rt(FC:Facts C)(CO:bM C Φ d)(t:T):SST C Φ d t:=
  T.rec (motive_1:=SST C Φ d) (motive_2:=vg C Φ d) (fun i k=>xP i k) (fun l h=>xQ h) (fun o n=>vn FC (re FC CO o).2) (fun o i=>xS (re FC CO o).2 (re FC CO i).1.1) vh (fun t r h ih=>sT h ih) t
theorem vL{e:E}(h:e.isComp=true):∃x y z w,e=.comp x y z w:=by cases e<;>first|exact⟨_,_,_,_,rfl⟩|exact absurd h Bool.false_ne_true
theorem pY(FC:Facts C)(CO:bM C Φ d)(t:T)(e:E):SS C Φ d (.asg t e):=by
  cases h:e.isComp with
  |false=>exact BJ (re FC CO e).1.1 (rt FC CO t) h
  |true=>
    obtain⟨x,y,z,w,rfl⟩:=vL h
    exact ox (DE FC CO z) (re FC CO x).1.1 (fun c _=>(re FC CO c).1.2) (rt FC CO t)
@[elab_as_elim] theorem BQ{io:String→List Bool}{x:Sx}{st:S}{r:List S}{R:List Stmt→Prop}{ps:List Stmt}(hne:∀p,st≠.frz p)(h:bo io x (st::r) ps=true)(j:∀p q,gN io x st p=true→bo io x r q=true→R (p::q)):R ps:=by
  cases ps with
  |nil=>cases st<;>first|exact absurd h Bool.false_ne_true|exact absurd rfl (hne _)
  |cons p q=>exact j p q (by cases st<;>first|exact(a2_ h).1|exact absurd rfl (hne _)) (by cases st<;>first|exact(a2_ h).2|exact absurd rfl (hne _))
theorem vM{st:S}{r:List S}(hne:∀p,st≠.frz p)(S₁:SS C Φ d st)(S₂:SSL C Φ d r):SSL C Φ d (st::r):=fun S hcs hB hc he hq=>BQ hne hc fun p q h1 h2=>vo S₁ S₂ S hcs hB h1 h2 he hq
theorem EQ(FC:Facts C)(CO:bM C Φ d)(l:List S):SSL C Φ d l:=by
  refine S.rec_1 (motive_1:=SS C Φ d) (motive_2:=SSL C Φ d) (pY FC CO) (fun e=>xU (re FC CO e).1.1) (fun p e _=>Bu (re FC CO p).2 (re FC CO e).1.1) (fun p e=>Bw (re FC CO p).2 (re FC CO e).1.1) (fun p=>By (re FC CO p).2)
    (fun c a b h1 h2=>BB (re FC CO c).1.2 h1 h2) (fun c b h=>BD (re FC CO c).1.2 h) (fun _ s b h=>BF (DE FC CO s) h) (fun e=>?_) (fun p {k y σ st fl σ' Q} _ _ _ hc _ _=>absurd hc Bool.false_ne_true) xT (fun st r h ih=>?_) l
  · cases e with
    |none=>exact oh
    |some e=>exact BC (re FC CO e).1.1
  · by_cases hf:∃p,st=.frz p
    · obtain⟨p,rfl⟩:=hf
      exact x1 ih
    · exact vM (fun p e=>hf ⟨p,e⟩) h ih
end
end Mine.Internal
end
section
namespace Mine.Internal
open PySem PySem.W PySem.Calls PyProof.Rows
noncomputable def Fn.pinned(fn:Fn):List Nat:=(List.range fn.np).filter fun i=>fn.io[i]?==some true
noncomputable def Fn.sx(fn:Fn)(names:List (ae×NameKind)):Sx:=⟨fn.vs,names,fn.n1,none,fn.pinned⟩
noncomputable def Fn.ps(fn:Fn):List ae:=(fn.vs.take fn.np).map Str.ofString
structure FnAt (C:Cx) (fn:Fn) (f:Addr) (o:Obj) (fd:FuncData) (body:List Stmt):Prop where
  at_:C.h₀.get? f=some o
  data:o.data=.func fd
  text:fd.body=.stmts body
  clo:fd.closure=[]
  globals:fd.globals=mainGlobals
  builtins:fd.builtins=builtinsNs
  kind:fd.scope.kind=.function
  co:fd.scope.isCoroutine=false
  gen:fd.scope.isGenerator=false
  code:C.h₀.CodeRec fd.code fd.qualname
  bind:∀(s:Shared) (a5:List Value),C.K.In s.heap→a5.length=fn.np→BindsTo s fd ⟨a5,[]⟩ (fn.ps.zip a5)
  chk:bo C.G.io (fn.sx fd.scope.names) fn.body body=true
  names:(fd.scope.names.map (·.1)).Nodup
  kinds:∀x∈fn.vs.take fn.np,fd.scope.names.lookup (Str.ofString x)=some .local∨fd.scope.names.lookup (Str.ofString x)=some .cell
  nodup:(fn.vs.take fn.n1).Nodup
  np:fn.np≤fn.n1
  n1:fn.n1≤fn.vs.length
  io:fn.io.length=fn.np
theorem l7{x:ae}{names:List (ae×NameKind)}:∀{n:Nat} {acc:List (ae×Addr)},((x,NameKind.cell)∈names∨∃c,(x,c)∈acc)→∃c,(x,c)∈cellsFrom n names acc:=by
  induction names with
  |nil=>exact fun h=>h.elim nofun id
  |cons y r ih=>
    obtain⟨m,k⟩:=y
    intro n acc h
    show∃c,(x,c)∈(if(k==.cell)=true then cellsFrom (n+1) r ((m,n)::acc)else cellsFrom n r acc)
    by_cases hk:(k==.cell)=true
    · rw[if_pos hk]
      exact ih (h.elim (fun h=>(List.mem_cons.mp h).elim (fun e=>.inr ⟨n,by cases e;exact .head _⟩) .inl) fun⟨c,h⟩=>.inr ⟨c,.tail _ h⟩)
    · rw[if_neg hk]
      exact ih (h.imp (fun h=>(List.mem_cons.mp h).resolve_left fun e=>hk (by cases e;rfl)) id)
theorem kx{names:List (ae×NameKind)}:∀{n:Nat} {acc:List (ae×Addr)},(acc.map (·.1)++names.map (·.1)).Nodup→((cellsFrom n names acc).map (·.1)).Nodup:=by
  induction names with
  |nil=>intro n acc h;exact(List.append_nil (acc.map (·.1)))▸h
  |cons y r ih=>
    obtain⟨m,k⟩:=y
    intro n acc h
    show((if(k==.cell)=true then cellsFrom (n+1) r ((m,n)::acc)else cellsFrom n r acc).map (·.1)).Nodup
    by_cases hk:(k==.cell)=true
    · rw[if_pos hk]
      exact ih (List.perm_middle.nodup_iff.mp h)
    · rw[if_neg hk]
      exact ih (h.sublist (.append (.refl _) (List.sublist_cons_self _ _)))
theorem cp{α:Type}{x:ae}{c:α}{l:List (ae×α)}:(l.map (·.1)).Nodup→(x,c)∈l→l.lookup x=some c:=by
  induction l with
  |nil=>exact fun _ h=>absurd h List.not_mem_nil
  |cons y r ih=>
    obtain⟨n,v⟩:=y
    intro h hm
    obtain⟨h1,h2⟩:=List.nodup_cons.mp h
    rcases List.mem_cons.mp hm with e|hm
    · cases e;exact gQ
    · exact(fV fun e=>h1 (List.mem_map.mpr ⟨(x,c),hm,e⟩)).trans (ih h2 hm)
theorem te{kd:ae→Option NameKind}{n:ae}{l:List (ae×Value)}:∀{m:ae→Option Value},n∉l.map (·.1)→bindL kd l m n=m n:=by
  induction l with
  |nil=>exact fun _=>rfl
  |cons y r ih=>
    intro m h
    refine(ih fun q=>h (.tail _ q)).trans ?_
    by_cases q:kd y.1=some .local
    · rw[if_pos q];exact if_neg fun(e:n=y.1)=>h (e▸.head _)
    · rw[if_neg q]
theorem tg{kd:ae→Option NameKind}{n:ae}{l:List (ae×Value)}:∀{m:ae→Option Value},n∉l.map (·.1)→bindC kd l m n=m n:=by
  induction l with
  |nil=>exact fun _=>rfl
  |cons y r ih=>
    intro m h
    refine(ih fun q=>h (.tail _ q)).trans ?_
    by_cases q:kd y.1=some .local
    · rw[if_pos q]
    · rw[if_neg q];exact if_neg fun(e:n=y.1)=>h (e▸.head _)
theorem vN{kd:ae→Option NameKind}{n:ae}{v:Value}(hk:kd n=some .local){l:List (ae×Value)}:∀{m:ae→Option Value},(l.map (·.1)).Nodup→(n,v)∈l→bindL kd l m n=some v:=by
  induction l with
  |nil=>exact fun _ h=>absurd h List.not_mem_nil
  |cons y r ih=>
    intro m h hm
    obtain⟨h1,h2⟩:=List.nodup_cons.mp h
    rcases List.mem_cons.mp hm with e|hm
    · subst e
      refine(te h1).trans ?_
      rw[if_pos hk];exact if_pos rfl
    · exact ih h2 hm
theorem vO{kd:ae→Option NameKind}{n:ae}{v:Value}(hk:kd n=some .cell){l:List (ae×Value)}:∀{m:ae→Option Value},(l.map (·.1)).Nodup→(n,v)∈l→bindC kd l m n=some v:=by
  induction l with
  |nil=>exact fun _ h=>absurd h List.not_mem_nil
  |cons y r ih=>
    intro m h hm
    obtain⟨h1,h2⟩:=List.nodup_cons.mp h
    rcases List.mem_cons.mp hm with e|hm
    · subst e
      refine(tg h1).trans ?_
      rw[if_neg (show¬kd n=some .local from fun q=>nomatch hk.symm.trans q)];exact if_pos rfl
    · exact ih h2 hm
theorem i8{l:List String}(h:l.Nodup):(l.map Str.ofString).Nodup:=by
  induction l with
  |nil=>exact .nil
  |cons x r ih=>
    obtain⟨h1,h2⟩:=List.nodup_cons.mp h
    exact List.nodup_cons.mpr ⟨fun hm=>(List.mem_map.mp hm).elim fun y q=>h1 (bB q.2▸q.1),ih h2⟩
theorem FnAt.lenP{C:Cx}{fn:Fn}{f:Addr}{o:Obj}{fd:FuncData}{body:List Stmt}(T:FnAt C fn f o fd body):fn.ps.length=fn.np:=
  (List.length_map ..).trans ((List.length_take ..).trans (Nat.min_eq_left (Nat.le_trans T.np T.n1)))
structure Entd (fd:FuncData) (y:Y) (bs:List (ae×Value)) (env:Env) (s:Shared):Prop where
  scope:env.scope=fd.scope
  globals:env.globals=fd.globals
  builtins:env.builtins=fd.builtins
  cells:env.cells=cellsFrom (y.h.objs.size+1) fd.scope.names []
  x:InCallC y.s env.locals (bindL env.kindOf bs fun _=>none) env.cells (bindC env.kindOf bs fun _=>none) s
noncomputable def gY(fn:Fn)(vs:List Value)(env:Env):Act:=⟨env,fn.vs,env.locals::env.cells.map (·.2),fn.n1,none,fn.pinned.map fun i=>(i,vs.getD i .none)⟩
section
variable {C:Cx} {fn:Fn} {f:Addr} {o:Obj} {fd:FuncData} {body:List Stmt} {y:Y} {vs:List Value} {env:Env} {s:Shared} {O:List Addr}
theorem Entd.keys{bs:List (ae×Value)}(T:FnAt C fn f o fd body)(N:Entd fd y bs env s):(env.cells.map (·.1)).Nodup:=N.cells▸kx T.names
theorem Entd.has{bs:List (ae×Value)}{n:ae}(T:FnAt C fn f o fd body)(N:Entd fd y bs env s)(h:env.kindOf n=some .cell):∃c,env.cells.lookup n=some c:=by
  obtain⟨c,hc⟩:=l7 (n:=y.h.objs.size+1) (acc:=[]) (.inl (mem_of_lookup (show fd.scope.names.lookup n=some .cell from N.scope▸h)))
  exact⟨c,cp (N.keys T) (N.cells.symm▸hc)⟩
theorem zS{b:Addr}(h:y.h.objs.size≤b):y.no b:=by
  obtain⟨j,rfl⟩:=Nat.le.dest h
  exact c9 y j
theorem Entd.fr{bs:List (ae×Value)}(T:FnAt C fn f o fd body)(N:Entd fd y bs env s):∀b∈(gY fn vs env).fr,y.no b∧(y.to s).has b:=fun b hb=>by
  rcases List.mem_cons.mp hb with rfl|hb
  · obtain⟨oo,es,ep,ho,_⟩:=N.x.toInCall.ns
    exact⟨zS N.x.toInCall.fresh,oo,ho⟩
  · obtain⟨⟨n,c⟩,hm,rfl⟩:=List.mem_map.mp hb
    obtain⟨oo,ho,_⟩:=N.x.cell n c (cp (N.keys T) hm)
    exact⟨zS (Nat.le_of_lt (Nat.lt_of_le_of_lt N.x.toInCall.fresh (N.x.above n c hm))),oo,ho⟩
theorem Entd.mv{bs:List (ae×Value)}(N:Entd fd y bs env s):Mv y (y.to s) []:=⟨(let⟨h,t,e⟩:=N.x.toInCall.same;⟨h,t,e⟩),fun b _ o e=>N.x.toInCall.keep b o e,fun _ h=>h⟩
theorem Entd.ht{bs:List (ae×Value)}(T:FnAt C fn f o fd body)(N:Entd fd y bs env s)(H:HT C y O):HT C (y.to s) ((gY fn vs env).fr++O):=by
  have hf:=N.fr (vs:=vs) T
  refine⟨fun b o e=>N.mv.keep b nofun o (H.stays b o e),List.nodup_append.mpr ⟨List.nodup_cons.mpr ⟨fun hm=>?_,List.pairwise_map.mpr N.x.apart⟩,H.nodup,fun b hb c hc e=>eL (hf b hb).1 (e▸(H.own c hc).2.2)⟩,fun b hb=>(List.mem_append.mp hb).elim (fun hb=>?_) fun hb=>?_,fun b hb=>(N.mv.keep b nofun).has (H.old b hb),H.base'⟩
  · obtain⟨⟨n,c⟩,hm,e⟩:=List.mem_map.mp hm
    exact Nat.lt_irrefl _ (show env.locals<env.locals from(show c=env.locals from e)▸N.x.above n c hm)
  · obtain⟨q1,q2⟩:=hf b hb
    exact⟨(H.new q1).2.1,(H.new q1).2.2,q2⟩
  · obtain⟨h1,h2,h3⟩:=H.own b hb
    exact⟨h1,h2,(N.mv.keep b nofun).has h3⟩
theorem vP(h:env.scope=fd.scope):(gY fn vs env).sx=fn.sx fd.scope.names:=by
  show Sx.mk fn.vs env.scope.names fn.n1 none ((fn.pinned.map fun i=>(i,vs.getD i .none)).map (·.1))=_
  rw[h,List.map_map]
  exact congrArg (Sx.mk fn.vs fd.scope.names fn.n1 none) (List.map_id _)
theorem DF{l:List String}{n:Nat}(hn:n≤l.length)(hd:(l.take n).Nodup){i j:Nat}{x:String}(hi:i<n)(hj:j<n)(h1:l[i]?=some x)(h2:l[j]?=some x):i=j:=by
  have e:∀{k},k<n→(l.take n)[k]?=l[k]?:=fun h=>by rw[List.getElem?_take,if_pos h]
  exact(List.getElem?_inj (by rw[List.length_take,Nat.min_eq_left hn];exact hi) hd).mp (((e hi).trans h1).trans ((e hj).trans h2).symm)
theorem zT{q:Nat×Value}(h:q∈(gY fn vs env).pin):q.1<fn.np∧q.2=vs.getD q.1 .none:=by
  obtain⟨i,hi,rfl⟩:=List.mem_map.mp h
  exact⟨List.mem_range.mp (List.mem_filter.mp hi).1,rfl⟩
theorem Entd.ok{bs:List (ae×Value)}(T:FnAt C fn f o fd body)(N:Entd fd y bs env s):EnvOk (gY fn vs env):=
  ⟨(congrArg Scope.kind N.scope).trans T.kind,N.globals.trans T.globals,N.builtins.trans T.builtins,.head _,fun x c hc=>.tail _ (List.mem_map.mpr ⟨(x,c),mem_of_lookup hc,rfl⟩),fun _ _ _ _=>N.has T,fun x z c h1 h2=>name_of_addr N.x.apart (mem_of_lookup h1) (mem_of_lookup h2),
    fun x c hc e=>Nat.lt_irrefl _ (show env.locals<env.locals from(show c=env.locals from e)▸N.x.above x c (mem_of_lookup hc)),fun i j x hi hj h1 h2=>DF T.n1 T.nodup hi hj h1 h2,nofun,fun q hq=>Nat.lt_of_lt_of_le (zT hq).1 T.np⟩
end
end Mine.Internal
end
section
namespace Mine.Internal
open PySem PySem.W PySem.Calls PyProof.Rows
theorem vQ{α:Type}{l:List α}{n i:Nat}{x m:α}(h:(l++List.replicate n x)[i]?=some m):l[i]?=some m∨(m=x∧l.length≤i∧i<l.length+n):=by
  rcases Nat.lt_or_ge i l.length with q|q
  · exact .inl (List.getElem?_append_left q▸h)
  · have hl:=bL h
    rw[List.length_append,List.length_replicate]at hl
    rw[List.getElem?_append_right q,List.getElem?_replicate,if_pos (Nat.sub_lt_left_of_lt_add q hl)]at h
    exact .inr ⟨(Option.some.inj h).symm,q,hl⟩
theorem yg{α:Type}{l:List α}{n i:Nat}{x:α}(h1:l.length≤i)(h2:i<l.length+n):(l++List.replicate n x)[i]?=some x:=by
  rw[List.getElem?_append_right h1,List.getElem?_replicate,if_pos (Nat.sub_lt_left_of_lt_add h1 h2)]
theorem jz{α β:Type}{as:List α}{n i:Nat}{a:α}{g:α→β}{x:β}(h:as[i]?=some a):(as.map g++List.replicate n x)[i]?=some (g a):=by
  rw[List.getElem?_append_left (by rw[List.length_map];exact bL h),List.getElem?_map,h];rfl
theorem zU{α β:Type}{as:List α}{i:Nat}{g:α→β}{x:β}(h:(as.map g)[i]?=some x):∃a,as[i]?=some a∧g a=x:=Option.map_eq_some_iff.mp (List.getElem?_map▸h)
theorem oz{fs:List (List Addr)}{n:Nat}:(fs++List.replicate n []).flatten=fs.flatten:=by rw[List.flatten_append,List.flatten_replicate_nil,List.append_nil]
theorem rX{fs:List (List Addr)}:∀{io:List Bool},(iof io fs).Sublist fs.flatten:=by
  induction fs with
  |nil=>intro io;rw[iof,List.zip_nil_right];exact .refl _
  |cons f fs ih=>
    intro io
    cases io with
    |nil=>exact List.nil_sublist _
    |cons b r=>cases b with
      |true=>exact .append (.refl f) ih
      |false=>exact ih.trans (List.sublist_append_right f _)
theorem l8{os:List (List Addr)}{n:Nat}:(os.take n).flatten.Sublist os.flatten:=by
  have h:=List.sublist_append_left (os.take n).flatten (os.drop n).flatten
  rwa[←List.flatten_append,List.take_append_drop]at h
noncomputable def Y.ent(y:Y)(s:Shared)(as:List Arg)(n:Nat):Y:=⟨s,y.F,as.map (·.v)++List.replicate n .none,as.map (·.f)++List.replicate n []⟩
noncomputable def BR(fn:Fn)(as:List Arg)(env:Env)(A:Around)(X:List Addr)(h:EnvOk (gY fn (as.map (·.v)) env)):Kx:=⟨gY fn (as.map (·.v)) env,A,X,h⟩
section
variable {C:Cx} {Φ:Phi} {d:Nat} {fn:Fn} {f:Addr} {o:Obj} {fd:FuncData} {body:List Stmt} {y y₁:Y} {as:List Arg} {env:Env} {s:Shared} {X M':List Addr} {A:Around} {σ':List M} {m:M} {v:Value}
theorem vR(T:FnAt C fn f o fd body)(hl:as.length=fn.np):((fn.ps.zip (as.map (·.v))).map (·.1)).Nodup:=by
  rw[List.map_fst_zip (by rw[T.lenP,List.length_map,hl];exact Nat.le_refl _)]
  exact i8 (T.nodup.sublist (List.take_sublist_take_left T.np))
theorem Entd.st(T:FnAt C fn f o fd body)(hl:as.length=fn.np)(N:Entd fd y (fn.ps.zip (as.map (·.v))) env s)(hr:∀a∈as,ag C y a.v a.m a.f)(H:HT C y (as.flatMap (·.f)++X)):St C (BR fn as env A X (N.ok T)) (y.ent s as (fn.vs.length-fn.np)) (as.map (·.m)++List.replicate (fn.vs.length-fn.np) .undef):=by
  have hn:fn.np+(fn.vs.length-fn.np)=fn.vs.length:=Nat.add_sub_cancel' (Nat.le_trans T.np T.n1)
  have len:∀{β:Type} {g:Arg→β} {x:β},(as.map g++List.replicate (fn.vs.length-fn.np) x).length=fn.vs.length:=by
    intro β g x
    rw[List.length_append,List.length_map,List.length_replicate,hl,hn]
  have T₀:Mv y (y.ent s as (fn.vs.length-fn.np)) []:=N.mv.from rfl rfl
  refine⟨?_,len.trans len.symm,len.trans len.symm,len.symm,⟨_,N.x.toInCall.ns⟩,fun x c hc=>⟨_,N.x.cell x c hc⟩,fun i m e hne=>?_,fun i e=>?_,fun q hq=>?_⟩
  · show HT C _ (_++((as.map (·.f)++_).flatten++X))
    rw[oz]
    exact(N.ht T H).re rfl rfl
  · obtain⟨a,ha,rfl⟩:=zU ((vQ e).resolve_right fun q=>hne q.1)
    have hi:i<fn.np:=hl▸bL ha
    have hx:=List.getElem?_eq_getElem (l:=fn.vs) (Nat.lt_of_lt_of_le hi (Nat.le_trans T.np T.n1))
    have hm:(Str.ofString fn.vs[i],a.v)∈fn.ps.zip (as.map (·.v)):=List.mem_of_getElem? (i:=i) (List.getElem?_zip_eq_some.mpr ⟨by rw[Fn.ps,List.getElem?_map,List.getElem?_take,if_pos hi,hx];rfl,by rw[List.getElem?_map,ha];rfl⟩)
    exact⟨fn.vs[i],a.v,a.f,hx,jz ha,jz ha,⟨fun kd _=>(N.has T kd).elim fun c hc=>⟨c,hc,vO kd (vR T hl) hm▸N.x.cell _ c hc⟩,fun kd _=>⟨_,N.x.toInCall.ns,vN kd (vR T hl) hm⟩⟩,(hr a (List.mem_of_getElem? ha)).stay T₀.stay0⟩
  · rcases vQ e with h|⟨_,h1,h2⟩
    · obtain⟨a,ha,e⟩:=zU h
      have:=hr a (List.mem_of_getElem? ha)
      rw[e]at this
      exact(jz ha).trans (congrArg some this)
    · rw[List.length_map]at h1 h2
      exact yg ((List.length_map ..).symm▸h1) ((List.length_map ..).symm▸h2)
  · obtain⟨h1,h2⟩:=zT hq
    have ha:=List.getElem?_eq_getElem (l:=as) (hl▸h1)
    refine(jz ha).trans ?_
    rw[h2,List.getD_eq_getElem?_getD,List.getElem?_map,ha];rfl
theorem Entd.ret(T:FnAt C fn f o fd body)(hl:as.length=fn.np)(N:Entd fd y (fn.ps.zip (as.map (·.v))) env s)(G:Go C (BR fn as env A X (N.ok T)) (y.ent s as (fn.vs.length-fn.np)) y₁ σ' M')(r:ag C y₁ v m M'):Ret C y fn.io as X m (σ'.take fn.np) v y₁ M' (y₁.os.take fn.np):=by
  have flat:(y.ent s as (fn.vs.length-fn.np)).os.flatten=as.flatMap (·.f):=oz
  have T₀:Mv y (y.ent s as (fn.vs.length-fn.np)) []:=N.mv.from rfl rfl
  have V:Vars C (gY fn (as.map (·.v)) env) y₁ σ':=G.st.vars
  have hnp:fn.np≤fn.vs.length:=Nat.le_trans T.np T.n1
  refine⟨T₀.wide0.trans G.mv fun b hb=>(List.mem_append.mp hb).elim (fun q=>.inr (N.fr T b q).1) fun q=>.inl (flat▸q),?_,?_,r,fun i u m g hi hu hm hg=>?_,fun b hb=>?_⟩
  · rw[List.length_take,V.lenO,←V.lenV,hl]
    exact Nat.min_eq_left hnp
  · exact(G.st.ht.sub ((List.Sublist.append (rX.trans l8) (.refl _)).trans (List.sublist_append_right _ _))).perm (pm [iof fn.io (y₁.os.take fn.np),M',X] (.a t0 (.a t1 t2)) (.a t1 (.a t0 t2)) rfl)
  · have hin:i<fn.np:=T.io▸bL hi
    rw[List.getElem?_take,if_pos hin]at hm hg
    by_cases hmu:m=.undef
    · subst hmu
      exact Option.some.inj (hg.symm.trans (V.und i hm))
    · obtain⟨x,u',fp,L⟩:=V.at_ i m hm hmu
      obtain rfl:=Option.some.inj (L.o.symm.trans hg)
      have hp:(i,(as.map (·.v)).getD i .none)∈(gY fn (as.map (·.v)) env).pin:=List.mem_map.mpr ⟨i,List.mem_filter.mpr ⟨List.mem_range.mpr hin,by rw[hi];rfl⟩,rfl⟩
      obtain rfl:u'=u:=(Option.some.inj (L.ρ.symm.trans (V.pin _ hp))).trans (by rw[List.getD_eq_getElem?_getD,hu];rfl)
      exact L.rep
  · refine(G.dirt b (hb.imp (fun q=>(rX.trans l8).subset q) id)).imp (fun q=>flat▸q) fun q=>(T₀.old q).resolve_left nofun
theorem BS{A:Around}{env:Env}(B:BudC A (d+1)):Bud (A.deeper env) d:=
  ⟨B.handled,by have:=B.depth;have:(A.deeper env).depth=A.depth+1:=rfl;(exact Nat.add_le_add_right (by first|assumption|omega) _),by have:=B.units;have:(A.deeper env).units=A.units+3:=rfl;(exact Nat.le_of_lt (by trivial))⟩
theorem yh{r:M}{outs:List M}{Q:Value→Shared→Prop}(FC:Facts C)(CO:bM C Φ d)(T:FnAt C fn f o fd body)(hΦ:nL C.G Φ fn (as.map (·.m))=some (r,outs))(B:BudC A (d+1))(hr:∀a∈as,ag C y a.v a.m a.f)(H:HT C y (as.flatMap (·.f)++X))(hq:∀v y' fr gs,Ret C y fn.io as X r outs v y' fr gs→Q v y'.s):
    codeAny (model C.cl.prog C.cl.w) A (.call (.ref f) ⟨as.map (·.v),[]⟩) (fun res s'=>∃v,res=.ok (.ret v)∧Q v s') y.s:=
  oI hΦ fun hlen h=>oM h fun q hex e=>by
    obtain⟨fl,σ'⟩:=q
    obtain⟨rfl,rfl⟩:=Prod.mk.inj e
    rw[List.length_map]at hlen
    have hroom:A.depth<recursionLimit:=by have:=B.depth;unfold recursionLimit;(exact Nat.lt_succ_of_le (by trivial))
    refine codeAny_call_function hroom (H.stays _ _ T.at_) T.data T.co T.gen T.text (T.code.keeps H.stays) (T.bind y.s (as.map (·.v)) (kb FC H) ((List.length_map ..).trans hlen) _ _ _ _ ?_)
    rw[T.clo]
    refine wpAny_newFunctionEnv_cells T.kind (fun x hx=>?_) fun env he s' x=>⟨FC.nolimit.keeps fun b o e=>x.toInCall.keep b o (H.stays b o e),codeAny_func ?_⟩
    · have hx1:x.1∈(fn.ps.zip (as.map (·.v))).map (·.1):=List.mem_map.mpr ⟨x,hx,rfl⟩
      rw[List.map_fst_zip (by rw[T.lenP,List.length_map,hlen];exact Nat.le_refl _)]at hx1
      obtain⟨z,hz,e⟩:=List.mem_map.mp hx1
      refine e▸(T.kinds z hz).imp id fun q=>⟨q,?_⟩
      obtain⟨c,hc⟩:=l7 (n:=y.h.objs.size+1) (acc:=[]) (.inl (mem_of_lookup q))
      exact Option.isSome_iff_exists.mpr ⟨c,cp (kx T.names) hc⟩
    · have N:Entd fd y (fn.ps.zip (as.map (·.v))) env s':=by subst he;exact⟨rfl,rfl,rfl,rfl,x⟩
      have h:=EQ FC CO fn.body (k:=BR fn as env (A.deeper env) X (N.ok T)) (Q:=fun fw s'=>∃v,Except.ok (Flow.ret (match fw with|.ret v=>v|_=>.none))=(Except.ok (Flow.ret v):Result)∧Q v s') (N.st T hlen hr H) rfl (BS B) ((vP N.scope).symm▸T.chk) hex ?_
      · exact W.any h
      · cases fl with
        |next=>exact fun y₁ G=>⟨.none,rfl,hq .none y₁ [] _ (N.ret T hlen G ⟨rfl,rfl⟩)⟩
        |ret m=>exact fun v y₁ M' G r=>⟨v,rfl,hq v y₁ M' _ (N.ret T hlen G r)⟩
theorem vS(FC:Facts C)(hT:∀k fn,C.tab k=some fn→∃f o fd body,C.fa k=some f∧FnAt C fn f o fd body)(d:Nat):bM C (phi C.G C.tab d) d:=by
  induction d with
  |zero=>exact fun k ms r outs h=>ns h
  |succ d ih=>
    refine fun k ms r outs h=>oB (o:=C.tab k) h fun fn hk hc=>?_
    obtain⟨f,o,fd,body,hf,T⟩:=hT k fn hk
    exact⟨fn,f,hk,hf,fun B hm hr H hq=>yh FC ih T (hm▸hc) B hr H hq⟩
end
end Mine.Internal
end
section
open PySem PySem.W PyProof.Rows
namespace Mine.Internal
theorem DG{p q:Program}{loose:List Str}{Xt:Shared→Bool}{α:Type}{Yf:Shared→α}{Ya:World→α}{N:Nat}{g0:Bool}{m₀:Nat}{ann:Option Value}
    (open_:∀w:World,(fencedOpening treeTable p w N).map (fun s=>(s.heap,s.gens,s.drawn,s.toks))=some (boot_heap w.params,#[],boot_drawn,boot_toks))
    (size:∀w:World,((boot_heap w.params).isNs mainGlobals&&(#[]:Array GenState).size==0,(boot_heap w.params).objs.size,(boot_heap w.params).nsMap mainGlobals "__annotations__")=(true,m₀,ann))
    (run:∀(w:World) (os:OsState),(topRun treeTable p w m₀ ann N ⟨boot_heap w.params,#[],boot_drawn,boot_toks,os⟩ (topStub p)).map (fun s=>((staticsOk (importedModules p.main.body) (boot_heap w.params) s.heap&&namesBound p s.heap&&gensDone s&&laidKept (boot_heap w.params) s.heap),openSeen q loose (importedModules p.main.body) Xt g0 s,Yf s))=some (true,openGood q loose,Ya w)):
    LeftO p q loose Xt Yf Ya N g0:=fun w=>by
  obtain⟨⟨h,gs,d,k,os⟩,e,e'⟩:=Option.map_eq_some_iff.mp (open_ w)
  obtain⟨rfl,rfl,rfl,rfl⟩:h=boot_heap w.params∧gs= #[]∧d=boot_drawn∧k=boot_toks:=by simpa using e'
  obtain⟨z1,z2,z3⟩:_∧_∧_:=by simpa only[Prod.mk.injEq]using size w
  obtain⟨s₁,r,hr⟩:=Option.map_eq_some_iff.mp (run w os)
  simp only[Prod.mk.injEq]at hr
  obtain⟨l1,l2,l3⟩:=hr
  have t:topFrom treeTable p w N ⟨boot_heap w.params,#[],boot_drawn,boot_toks,os⟩=some s₁:=by
    unfold topFrom
    dsimp only
    rw[z1,z2,z3,r]
    show(match staticsOk (importedModules p.main.body) (boot_heap w.params) s₁.heap&&namesBound p s₁.heap&&gensDone s₁&&laidKept (boot_heap w.params) s₁.heap with|true=>_|false=>_)=_
    rw[l1]
  unfold openEnds
  rw[e]
  show(topFrom treeTable p w N _).map _=_
  rw[t]
  exact congrArg some (Prod.ext l2 l3)
theorem iM:@topRun=@PySem.W.Fast.tw14082659384304107361:=PySem.W.Fast.te14082659384304107361
theorem gk:treeTable=PySem.W.Fast.tw14364793385576792824:=PySem.W.Fast.te14364793385576792824
noncomputable abbrev prg:Program:=PySem.Challenge.rw_rh0232_01.row.prog
noncomputable def qv:Program:=view prg [0,2,3,4,5,6,7,8,10,11,12,13,14,15,18,19,20,21,22,23,24,25,26,27,28,30,31,32,33,34,35,36,37,38,39,40,41,42,43,44,45,46]
noncomputable def cg:List Str:=[Str.ofString "PLAIN",Str.ofString "Line",Str.ofString "line_of"]
noncomputable def lvL:List (Str×WData):=[(Str.ofString "PLAIN",WData.tuple [WData.int 0,WData.int (-1),WData.int (-1),WData.int (-1),WData.int 0])]
theorem vT:∀w:World,(fencedOpening treeTable prg w 5626).map (fun s=>(s.heap,s.gens,s.drawn,s.toks))=some (boot_heap w.params,#[],boot_drawn,boot_toks):=
  boot_open (p:=prg) (N:=5626) (by kernel_rfl) (by decide) (fun s=>by kernel_rfl)
theorem vU:∀w:World,((boot_heap w.params).isNs mainGlobals&&(#[]:Array GenState).size==0,(boot_heap w.params).objs.size,(boot_heap w.params).nsMap mainGlobals "__annotations__")=(true,11,some (.ref 6)):=fun w=>by kernel_rfl
end Mine.Internal
end
section
namespace Mine.Internal
open PySem PySem.W PySem.Calls PyProof.Rows
noncomputable def faL:List (String×Addr):=[("erased_pen",29),("blank_cell",36),("is_blank",43),("is_plain_blank",50),("line_blanks",58),("right_half",65),("line_slice",79),("Line.__init__",93),("Line:columns",100),("Line.copy",172),("Line.resized",194),("line_of",216),
  ("LogicalLine.__init__",230),("LogicalLine.put",237),("LogicalLine.kept_to",244),("LogicalLine.size_of",251),("LogicalLine.offset_of",258),("reflow_used",272),("reflow_begins_wide",279),("reflow_part",286),("reflow_goes_on",293),("logical_of",300),("cut_with_places",307),("reflow_place",314),("reflow_line",321),
  ("Cutting.__init__",335),("Cutting.put",342),("Cutting.go_behind",349),("Cutting.place_of",356),("Cutting.give_up",363),("Cutting.top",370),("_law_take",391),("_law_bare",398),("_law_line",405),("_law_goes_on",412),("_law_is_free",419),("_law_told",424),("_law_laid",431),("_law_other_size",438),("_law_cursor_in",443),
  ("_law_together",448),("_law_cut",455),("_law_seen",460),("_law_rest",467),("law",472)]
noncomputable def clL:List (String×Addr):=[("Line",204),("LogicalLine",261),("Cutting",373)]
noncomputable def bC:Addr:=101
noncomputable def rY(K:Frag)(c:String)(A:Addr):Bool:=plainGet K A "x"&&hasDictIn K A&&nsIn K mainGlobals (Str.ofString c)==some (some (.ref A))&&keepIn K (.ref A)&&makesIn K A&&
  findIn K (.ref A) "__setattr__"==some (some (.builtin "object.__setattr__"))&&plainOver K A&&
  (bk.all fun n=>(GT.prop c n).isSome||takerIn K A (Str.ofString n)==some none&&(match findIn K (.ref A) (Str.ofString n)with|some t=>noGet K t|none=>false))
noncomputable def BT(K:Frag)(A f:Addr)(m:String):Bool:=findIn K (.ref A) (Str.ofString m)==some (some (.ref f))&&isFn K (.ref f)
noncomputable def rZ(K:Frag)(k:String)(f:Addr):Bool:=keepIn K (.ref f)&&(!gK.contains k||nsIn K mainGlobals (Str.ofString k)==some (some (.ref f)))
end Mine.Internal
end
section
namespace Mine.Internal
open PySem PySem.W PySem.Calls PyProof.Rows
noncomputable def yi(K:Frag)(fn:Fn)(fd:FuncData):Bool:=(match fd.body with|.stmts b=>bo GT.io (fn.sx fd.scope.names) fn.body b|_=>false)&&fd.closure.isEmpty&&decide (fd.globals=mainGlobals)&&decide (fd.builtins=builtinsNs)&&decide (fd.scope.kind=.function)&&
  !fd.scope.isCoroutine&&!fd.scope.isGenerator&&codeIn K fd.code fd.qualname&&fd.params.posonlyargs.isEmpty&&fd.params.kwonlyargs.isEmpty&&fd.params.vararg.isNone&&fd.params.kwarg.isNone&&
  decide (fd.params.args.map (·.arg)=(fn.vs.take fn.np).map Str.ofString)&&(match fd.defaults with|.none=>true|.ref T=>(match K.lookup T with|some ⟨_,_,.seq _ _,_⟩=>true|_=>false)|_=>false)&&
  decide ((fd.scope.names.map (·.1)).Nodup)&&((fn.vs.take fn.np).all fun x=>match fd.scope.names.lookup (Str.ofString x)with|some .local=>true|some .cell=>true|_=>false)&&
  decide ((fn.vs.take fn.n1).Nodup)&&decide (fn.np≤fn.n1)&&decide (fn.n1≤fn.vs.length)&&decide (fn.io.length=fn.np)
noncomputable def pZ(K:Frag)(fn:Fn)(fd:FuncData):Bool:=fd.closure.isEmpty&&decide (fd.globals=mainGlobals)&&decide (fd.builtins=builtinsNs)&&decide (fd.scope.kind=.function)&&
  !fd.scope.isCoroutine&&!fd.scope.isGenerator&&codeIn K fd.code fd.qualname&&fd.params.posonlyargs.isEmpty&&fd.params.kwonlyargs.isEmpty&&fd.params.vararg.isNone&&fd.params.kwarg.isNone&&
  decide (fd.params.args.map (·.arg)=(fn.vs.take fn.np).map Str.ofString)&&(match fd.defaults with|.none=>true|.ref T=>(match K.lookup T with|some ⟨_,_,.seq _ _,_⟩=>true|_=>false)|_=>false)&&
  decide ((fd.scope.names.map (·.1)).Nodup)&&((fn.vs.take fn.np).all fun x=>match fd.scope.names.lookup (Str.ofString x)with|some .local=>true|some .cell=>true|_=>false)&&
  decide ((fn.vs.take fn.n1).Nodup)&&decide (fn.np≤fn.n1)&&decide (fn.n1≤fn.vs.length)&&decide (fn.io.length=fn.np)
theorem yj(K:Frag)(fn:Fn)(fd:FuncData):yi K fn fd=((match fd.body with|.stmts b=>bo GT.io (fn.sx fd.scope.names) fn.body b|_=>false)&&pZ K fn fd):=by
  unfold yi pZ
  simp only[Bool.and_assoc]
noncomputable def p_(K:Frag)(k:String)(f:Addr):Bool:=(match fnT k with
  |some fn=>(match K.lookup f with|some ⟨_,_,.func fd,_⟩=>yi K fn fd&&decide (fn.io=GT.io k)|_=>false)
  |none=>false)
noncomputable abbrev Bdy:=Option (FuncBody×List (Str×NameKind))
noncomputable def ky(K:Frag)(f:Addr):Bdy:=match K.lookup f with|some ⟨_,_,.func fd,_⟩=>some (fd.body,fd.scope.names)|_=>none
noncomputable def kz(k:String)(o:Bdy):Bool:=match o with
  |some (.stmts b,ns)=>(match fnT k with|some fn=>bo GT.io (fn.sx ns) fn.body b|none=>false)
  |_=>false
noncomputable def qa(K:Frag)(k:String)(f:Addr):Bool:=(match fnT k with
  |some fn=>(match K.lookup f with|some ⟨_,_,.func fd,_⟩=>pZ K fn fd&&decide (fn.io=GT.io k)|_=>false)
  |none=>false)
theorem yk{K:Frag}{k:String}{f:Addr}(h1:kz k (ky K f)=true)(h2:qa K k f=true):p_ K k f=true:=by
  revert h1 h2
  unfold kz ky qa p_
  cases fnT k with
  |none=>exact fun _ h=>h
  |some fn=>
    cases K.lookup f with
    |none=>exact fun _ h=>h
    |some o=>
      obtain⟨a,b,c,d⟩:=o
      cases c with
      |func fd=>
        intro h1 h2
        dsimp only at h1 h2 ⊢
        rw[yj,Bool.and_assoc,h2,Bool.and_true]
        revert h1
        cases fd.body with
        |stmts b=>exact fun h=>h
        |expr e=>exact fun h=>h
      |_=>exact fun _ h=>h
end Mine.Internal
end
section
namespace Mine.Internal
open PySem PySem.W PySem.Calls PyProof.Rows
theorem ll{ns:List ae}{g:ae→Option Value}:∀{a5:List Value},a5.length=ns.length→(∀p∈ns.zip a5,g p.1=some p.2)→(ns.filterMap fun n=>(g n).map fun v=>(n,v))=ns.zip a5:=by
  induction ns with
  |nil=>exact fun _ _=>rfl
  |cons x r ih=>
    intro a5 hl hg
    cases a5 with
    |nil=>cases hl
    |cons v vs=>
      rw[List.filterMap_cons,show g x=some v from hg (x,v) (.head _)]
      exact congrArg (List.cons (x,v)) (ih (Nat.succ.inj hl) fun p hp=>hg p (.tail _ hp))
theorem th{ns:List ae}{acc:List (ae×Value)}{f:ae×Value→List (ae×Value)→Sem (ForInStep (List (ae×Value)))}(hf:∀x∈ns,∀v,f (x,v) acc=pure (ForInStep.yield acc)){l:List (ae×Value)}:(∀x∈l,x.1∈ns)→forIn l acc f=pure acc:=by
  induction l with
  |nil=>exact fun _=>rfl
  |cons x r ih=>
    intro hl
    rw[List.forIn_cons,hf x.1 (hl x (.head _)) x.2]
    exact ih fun y hy=>hl y (.tail _ hy)
theorem vV{fd:FuncData}{a5:List Value}(h1:fd.params.posonlyargs=[])(h2:fd.params.kwonlyargs=[])(h3:fd.params.vararg=none)(h4:fd.params.kwarg=none){ns:List ae}(hn:fd.params.args.map (·.arg)=ns)(hlen:a5.length=ns.length)(hnd:ns.Nodup):
    bindArgs fd ⟨a5,[]⟩=(seqItems? fd.defaults >>= fun _=>pure (ns.zip a5)):=by
  have hz:((ns.zip a5).map (·.1)).Nodup:=by rw[List.map_fst_zip (Nat.le_of_eq hlen.symm)];exact hnd
  have hat:∀p∈ns.zip a5,(ns.zip a5).lookup p.1=some p.2:=fun p hp=>cp hz hp
  have none_f:∀n∈ns,((ns.zip a5).lookup n).isNone=false:=fun n hn=>by
    rw[←List.map_fst_zip (Nat.le_of_eq hlen.symm)]at hn
    obtain⟨p,hp,rfl⟩:=List.mem_map.mp hn
    rw[hat p hp];rfl
  have hfil:∀k,((ns.take k).filter fun n=>((ns.zip a5).lookup n).isNone)=[]:=fun k=>List.filter_eq_nil_iff.mpr fun n hn=>by
    rw[none_f n (List.mem_of_mem_take hn)]
    exact Bool.false_ne_true
  have hzf:=ll (g:=fun n=>(ns.zip a5).lookup n) hlen hat
  obtain⟨name,qual,⟨po,ar,va,ko,kd,kw,df⟩,body,scope,gl,clo,dfs,kwd⟩:=fd
  dsimp only at h1 h2 h3 h4 hn
  subst h1 h2 h3 h4 hn
  refine congrArg (Bind.bind (seqItems? dfs)) (funext fun ds=>?_)
  refine(if_neg (c:=(decide (a5.length>(ar.map (·.arg)).length)&&true)=true) ?_).trans ?_
  · rw[decide_eq_false (show¬a5.length>(ar.map (·.arg)).length from hlen▸Nat.lt_irrefl _)]
    exact Bool.false_ne_true
  refine(if_neg (c:=(!(((ar.map (·.arg)).take _).filter fun n=>(((ar.map (·.arg)).zip a5).lookup n).isNone).isEmpty)=true) ?_).trans ?_
  · rw[hfil]
    exact Bool.false_ne_true
  refine(congrArg (· >>= _) (th (ns:=ar.map (·.arg)) (acc:=(ar.map (·.arg)).zip a5) (fun x hx v=>?_) fun x hx=>List.mem_of_mem_drop (List.of_mem_zip hx).1)).trans ?_
  · refine(if_neg ?_).trans rfl
    rw[none_f x hx]
    exact Bool.false_ne_true
  exact congrArg (pure (f:=Sem)) ((congrArg (List.filterMap _) (List.append_nil (ar.map (·.arg)))).trans hzf)
theorem ti{o:Option NameKind}(h:(match o with|some .local=>true|some .cell=>true|_=>false)=true):o=some .local∨o=some .cell:=by
  cases o with
  |none=>exact absurd h Bool.false_ne_true
  |some k=>cases k<;>first|exact .inl rfl|exact .inr rfl|exact absurd h Bool.false_ne_true
theorem BU{b:FuncBody}{f:List Stmt→Bool}(h:(match b with|.stmts b=>f b|_=>false)=true):∃l,b=.stmts l∧f l=true:=by
  cases b with
  |stmts l=>exact⟨l,rfl,h⟩
  |_=>exact absurd h Bool.false_ne_true
theorem yl{K:Frag}{s:Shared}(X:K.In s.heap){v:Value}(h:(match v with|.none=>true|.ref T=>(match K.lookup T with|some ⟨_,_,.seq _ _,_⟩=>true|_=>false)|_=>false)=true){M:Model}{A:Around}{E:Value→Shared→Prop}{α:Type}{x:Sem α}{Q:α→Shared→Prop}(q:wpAny M A x Q E s):wpAny M A (seqItems? v >>= fun _=>x) Q E s:=by
  cases v with
  |none=>exact wpAny_bind (wpAny_pure q)
  |ref T=>
    dsimp only at h
    split at h
    · rename_i ho
      exact wpAny_bind (wpAny_seqItems (X _ _ ho) rfl q)
    · cases h
  |_=>exact absurd h Bool.false_ne_true
theorem ym{C:Cx}(hG:C.G=GT)(X:C.K.In C.h₀){fn:Fn}{f:Addr}{oc:Value}{od:Option Addr}{sl:Array (Option Value)}{fd:FuncData}(ho:C.K.lookup f=some ⟨oc,od,.func fd,sl⟩)(h:yi C.K fn fd=true):∃o fd body,FnAt C fn f o fd body:=by
  obtain⟨h,h20⟩:=a2_ h
  obtain⟨h,h19⟩:=a2_ h
  obtain⟨h,h18⟩:=a2_ h
  obtain⟨h,h17⟩:=a2_ h
  obtain⟨h,h16⟩:=a2_ h
  obtain⟨h,h15⟩:=a2_ h
  obtain⟨h,h14⟩:=a2_ h
  obtain⟨h,h13⟩:=a2_ h
  obtain⟨h,h12⟩:=a2_ h
  obtain⟨h,h11⟩:=a2_ h
  obtain⟨h,h10⟩:=a2_ h
  obtain⟨h,h9⟩:=a2_ h
  obtain⟨h,h8⟩:=a2_ h
  obtain⟨h,h7⟩:=a2_ h
  obtain⟨h,h6⟩:=a2_ h
  obtain⟨h,h5⟩:=a2_ h
  obtain⟨h1,h2,h3,h4⟩:=a4_ h
  obtain⟨b,hb,h1⟩:=BU h1
  have hnd:fn.ps.Nodup:=i8 ((dec h17).sublist (List.take_sublist_take_left (dec h18)))
  have hl:fn.ps.length=fn.np:=(List.length_map ..).trans ((List.length_take ..).trans (Nat.min_eq_left (Nat.le_trans (dec h18) (dec h19))))
  exact⟨_,fd,b,X _ _ ho,rfl,hb,emp h2,dec h3,dec h4,dec h5,nt h6,nt h7,codeRec_of X h8,fun s a5 XS hv M A E Q q=>by
    rw[vV (emp h9) (emp h10) (Option.isNone_iff_eq_none.mp h11) (Option.isNone_iff_eq_none.mp h12) (dec h13) (hv.trans hl.symm) hnd]
    exact yl XS h14 (wpAny_pure q),hG▸h1,dec h15,fun x hx=>ti (List.all_eq_true.mp h16 x hx),dec h17,dec h18,dec h19,dec h20⟩
end Mine.Internal
end
section
namespace Mine.Internal
open PySem PySem.W PySem.Calls PyProof.Rows
theorem bc{α:Type}{l:List (String×α)}{k:String}{v:α}:l.lookup k=some v→(k,v)∈l:=by
  induction l with
  |nil=>exact nofun
  |cons p r ih=>
    obtain⟨n,x⟩:=p
    exact fun h=>jv h (fun e e'=>by rw[e,e'];exact .head _) fun h=>.tail _ (ih h)
noncomputable def DH:Value→Option Int|.int j _=>some j|_=>none
noncomputable def DI:Value→Option ae|.str t _=>some t|_=>none
noncomputable def DJ:Value→Option Addr|.ref t=>some t|_=>none
noncomputable def vW(K:Frag)(a:Addr)(f:List Value→Bool):Bool:=match K.lookup a with
    |some ⟨.type n,_,.seq vs _,_⟩=>n=="tuple"&&f vs.toList
    |_=>false
mutual
noncomputable def vX(K:Frag):V→Value→Bool
  |.none,v=>decide (v=.none)
  |.bool b,v=>decide (v=.bool b)
  |.int i,v=>li (DH v) fun j=>decide (j=i)
  |.str s,v=>li (DI v) fun t=>decide (t=Str.ofString s)
  |.tup l,v=>li (DJ v) fun a=>vW K a fun vs=>decide (l.length≤big)&&qb K l vs
  |.lst _,_=>false
  |.obj _ _,_=>false
noncomputable def qb(K:Frag):List V→List Value→Bool
  |[],vs=>vs.isEmpty
  |x::r,vs=>match vs with
    |[]=>false
    |v::q=>vX K x v&&qb K r q
end
theorem BV{v:Value}{i:Int}(h:DH v=some i):∃t,v=.int i t:=by cases v<;>cases h;exact⟨_,rfl⟩
theorem BW{v:Value}{i:ae}(h:DI v=some i):∃t,v=.str i t:=by cases v<;>cases h;exact⟨_,rfl⟩
theorem BX{v:Value}{a:Addr}(h:DJ v=some a):v=.ref a:=by cases v<;>cases h;rfl
theorem yn{K:Frag}{y:Y}{a:Addr}{f:List Value→Bool}(X:K.In y.h)(h:vW K a f=true):∃o vs,K.lookup a=some o∧y.h.IsTuple a vs∧f vs.toList=true:=by
  unfold vW at h
  split at h
  · rename_i n od vs k sl ho
    obtain⟨e,h⟩:=a2_ h
    obtain rfl:=eq_of_beq e
    exact⟨_,vs,ho,⟨_,X _ _ ho,rfl,k,rfl⟩,h⟩
  · cases h
theorem BY{C:Cx}{K:Frag}{y:Y}(X:K.In y.h)(HF:∀a o,K.lookup a=some o→y.F a):(∀x:V,∀v,vX K x v=true→aV C y v x)∧(∀l:List V,∀vs,qb K l vs=true→al C y vs l)∧∀_:List (String×V),True:=by
  refine V.ind (fun v e=>(dec e:v=.none)) (fun b v e=>(dec e:v=.bool b)) (fun i v e=>?_) (fun s v e=>?_) (fun l ih v e=>?_) (fun _ _ _ e=>absurd e Bool.false_ne_true) (fun _ _ _ _ e=>absurd e Bool.false_ne_true) (fun vs e=>emp e) (fun x r h1 h2 vs e=>?_) trivial fun _ _ _ _ _=>trivial
  · obtain⟨j,h,e⟩:=eN e
    obtain rfl:j=i:=dec e
    exact BV h
  · obtain⟨j,h,e⟩:=eN e
    obtain rfl:j=Str.ofString s:=dec e
    exact BW h
  · obtain⟨a,h,e⟩:=eN e
    obtain⟨o,vs,ho,ht,e⟩:=yn X e
    obtain⟨e1,e2⟩:=a2_ e
    exact⟨a,vs,BX h,HF _ _ ho,ht,dec e1,ih _ e2⟩
  · cases vs with
    |nil=>exact absurd e Bool.false_ne_true
    |cons v q=>exact⟨v,q,rfl,h1 v (a2_ e).1,h2 q (a2_ e).2⟩
noncomputable def m9(K:Frag)(g:String)(x:V):Bool:=match nsIn K mainGlobals (Str.ofString g)with
  |some (some v)=>vX K x v
  |_=>false
noncomputable def r0:List String:=zn.map (·.1)
noncomputable def m_(K:Frag):Bool:=clL.all fun p=>faL.all fun q=>!(q.1.toList.take (p.1.toList.length+1)==p.1.toList++['.'])||BT K p.2 q.2 (String.ofList (q.1.toList.drop (p.1.toList.length+1)))
noncomputable def dU:List Char:=".__init__".toList
noncomputable def yo:Bool:=faL.all fun q=>!(q.1.toList.drop (q.1.toList.length-dU.length)==dU)||(clL.lookup (String.ofList (q.1.toList.take (q.1.toList.length-dU.length)))).isSome
theorem yp:yo=true:=by kernel_rfl
end Mine.Internal
end
section
open PySem PySem.W PyProof.Rows
namespace Mine.Internal
noncomputable def XtL(s:Shared):Bool:=xlAt qv lvL s&&recOk PySem.Challenge.rw_rh0232_01.row.records s
theorem BZ:∀(w:World) (os:OsState),(topRun treeTable prg w 11 (some (.ref 6)) 5626 ⟨boot_heap w.params,#[],boot_drawn,boot_toks,os⟩ (topStub prg)).map (fun s=>(staticsOk (importedModules prg.main.body) (boot_heap w.params) s.heap&&namesBound prg s.heap&&gensDone s&&laidKept (boot_heap w.params) s.heap,seen ((recsOf qv).map (·.name)) (ownsOf qv) [] { s with gens:= #[] },s.heap.bltView,s.heap.keysOk (looseW qv cg) ((recsOf qv).map (·.name)) ((litsOf qv).map (·.1)) ((clssOf qv (looseW qv cg)).map (·.name))&&s.heap.accountedOkI (importedModules prg.main.body)&&s.heap.isNs mainGlobals&&s.heap.isNs builtinsNs&&tablesOk qv s.heap&&XtL s&&(if true then s.gens.size==0 else !leftWithCleanup s.gens)))=some (true,expectedOf qv,bltViewBooted,true):=fun w os=>by
  rw[iM,gk]
  kernel_rfl
theorem B0:∀(w:World) (os:OsState),(topRun treeTable prg w 11 (some (.ref 6)) 5626 ⟨boot_heap w.params,#[],boot_drawn,boot_toks,os⟩ (topStub prg)).map (fun s=>(tabsOk qv s,pinSeenD qv (drecsOf qv) s,plainSeenE qv (looseW qv cg) s,plainSeenD qv cg s,wideSeen qv s,clsSeenW qv cg s))=some (true,pinGoodD (drecsOf qv),plainGoodE qv (looseW qv cg),plainGoodD qv cg,wideGood qv,clsGoodW qv cg):=fun w os=>by
  rw[iM,gk]
  kernel_rfl
theorem vY{α β γ δ ε ζ:Type}{o:Option α}{f1:α→β}{f2:α→γ}{f3:α→δ}{f4:α→ε}{g:α→ζ}{b:β}{c:γ}{d:δ}{e:ε}{z:ζ}(h1:o.map (fun s=>(f1 s,f2 s,f3 s,f4 s))=some (b,c,d,e))(h2:o.map g=some z):o.map (fun s=>(f1 s,f2 s,f3 s,f4 s,g s))=some (b,c,d,e,z):=by
  cases o with
  |none=>cases h1
  |some s=>
    simp only[Option.map_some,Option.some.injEq,Prod.mk.injEq]at h1 h2 ⊢
    exact⟨h1.1,h1.2.1,h1.2.2.1,h1.2.2.2,h2⟩
theorem DK:∀(w:World) (os:OsState),(topRun treeTable prg w 11 (some (.ref 6)) 5626 ⟨boot_heap w.params,#[],boot_drawn,boot_toks,os⟩ (topStub prg)).map (fun s=>(staticsOk (importedModules prg.main.body) (boot_heap w.params) s.heap&&namesBound prg s.heap&&gensDone s&&laidKept (boot_heap w.params) s.heap,openSeen qv cg (importedModules prg.main.body) XtL true s))=some (true,openGood qv cg):=fun w os=>by
  delta openSeen openGood
  exact vY (BZ w os) (B0 w os)
end Mine.Internal
end
section
open PySem PySem.W PySem.Calls PyProof.Rows
namespace Mine.Internal
noncomputable def zV:List Addr:=[3,22,28,29,35,36,42,43,49,50,51,57,58,64,65,78,79,92,93,99,100,101,171,172,193,194,203,204,209,215,216,229,230,236,237,243,244,250,251,257,258,260,261,271,272,278,279,285,286,292,293,299,300,306,307,313,314,320,321,334,335,341,342,348,349,355,356,362,363,369,370,372,373,378,379,380,381,382,383,384,390,391,397,398,404,405,411,412,418,419,423,424,430,431,437,438,442,443,447,448,454,455,459,460,466,467,471,472]
noncomputable def kA(h:Heap):Frag:=zV.filterMap fun a=>(h.get? a).map fun o=>(a,o)
noncomputable def kB(K:Frag):Bool:=(clL.all fun p=>rY K p.1 p.2)&&(faL.all fun p=>rZ K p.1 p.2)&&m_ K&&
  (findIn K (.ref 204) (Str.ofString "columns")==some (some (.ref bC))&&specialIn K (.ref bC) "__get__"==some (some (.builtin "property.__get__"))&&takesIn K (.ref bC)==some true&&
  (match recIn K bC "property" with|some (.ref f::_)=>f==100|_=>false))&&
  (dq.all fun n=>nsIn K mainGlobals (Str.ofString n)==some none)&&
  (r0.all fun g=>match lE g with|some x=>m9 K g x|none=>false)&&
  (faL.all fun p=>p_ K p.1 p.2)
noncomputable def na(K:Frag):Bool:=(clL.all fun p=>rY K p.1 p.2)&&(faL.all fun p=>rZ K p.1 p.2)&&m_ K&&
  (findIn K (.ref 204) (Str.ofString "columns")==some (some (.ref bC))&&specialIn K (.ref bC) "__get__"==some (some (.builtin "property.__get__"))&&takesIn K (.ref bC)==some true&&
  (match recIn K bC "property" with|some (.ref f::_)=>f==100|_=>false))&&
  (dq.all fun n=>nsIn K mainGlobals (Str.ofString n)==some none)&&
  (r0.all fun g=>match lE g with|some x=>m9 K g x|none=>false)&&
  (faL.all fun p=>qa K p.1 p.2)
noncomputable def DL:List (Nat×Nat):=[(5,0),(6,0),(7,0),(8,0),(11,0),(12,0),(14,0),(15,1),(15,2),(15,12),(15,15),(16,0),(19,1),(19,2),(19,3),(19,4),(19,5),(20,0),(21,0),(22,0),(23,0),(24,0),(25,0),(26,0),(27,0),(28,1),(28,2),(28,3),(28,4),(28,5),(28,6),(33,0),(34,0),(35,0),(36,0),(37,0),(38,0),(39,0),(40,0),(41,0),(42,0),(43,0),(44,0),(45,0),(46,0)]
noncomputable def zW:Stmt→Bdy
  |.FunctionDef _ _ b _ _ _ sc ..=>some (.stmts b,sc.names)
  |_=>none
noncomputable def B1(j:Nat)(s:Stmt):Bdy:=match j with
  |0=>zW s
  |j+1=>(match s with|.ClassDef _ _ _ b ..=>(match b[j]? with|some m=>zW m|none=>none)|_=>none)
noncomputable def r6:List Bdy:=DL.map fun p=>match prg.main.body[p.1]? with|some s=>B1 p.2 s|none=>none
theorem yq:((faL.zip r6).all fun p=>kz p.1.1 p.2)=true:=by kernel_rfl
noncomputable def kC(K:Frag):List Bdy:=faL.map fun p=>ky K p.2
theorem DM:∀(w:World) (os:OsState),(topRun treeTable prg w 11 (some (.ref 6)) 5626 ⟨boot_heap w.params,#[],boot_drawn,boot_toks,os⟩ (topStub prg)).map (fun s=>(na (kA s.heap),kC (kA s.heap)))=some (true,r6):=fun w os=>by
  rw[iM,gk]
  kernel_rfl
theorem r7{α β:Type}{g:α→β}{Q:α×β→Bool}:∀(l:List α),(l.zip (l.map g)).all Q=true→∀p∈l,Q (p,g p)=true
  |[],_,_,h=>nomatch h
  |a::r,h,p,hp=>by
    have h:=Bool.and_eq_true_iff.mp (h:(Q (a,g a)&&(r.zip (r.map g)).all Q)=true)
    rcases List.mem_cons.mp hp with rfl|hp
    · exact h.1
    · exact r7 r h.2 p hp
theorem B2{K:Frag}(h:(na K,kC K)=(true,r6)):kB K=true:=by
  obtain⟨h1,h2⟩:=Prod.mk.inj h
  have hb:=yq
  rw[←h2]at hb
  have hb:(faL.zip (faL.map fun p:String×Addr=>ky K p.2)).all (fun p:(String×Addr)×Bdy=>kz p.1.1 p.2)=true:=hb
  have h3:=Bool.and_eq_true_iff.mp h1
  exact Bool.and_eq_true_iff.mpr ⟨h3.1,List.all_eq_true.mpr fun p hp=>yk (r7 (g:=fun p:String×Addr=>ky K p.2) (Q:=fun p:(String×Addr)×Bdy=>kz p.1.1 p.2) faL hb p hp) (List.all_eq_true.mp h3.2 p hp)⟩
end Mine.Internal
end
section
open PySem PySem.W PySem.Calls PyProof.Rows
namespace Mine.Internal
theorem nb(h:Heap):∀(l:List Addr) (a:Addr) (o:Obj),(l.filterMap fun a=>(h.get? a).map fun o=>(a,o)).lookup a=some o→h.get? a=some o
  |[],_,_,e=>by cases e
  |b::r,a,o,e=>by
    cases hb:h.get? b with
    |none=>
      rw[List.filterMap_cons,hb]at e
      exact nb h r a o e
    |some q=>
      rw[List.filterMap_cons,hb]at e
      simp only[Option.map_some,List.lookup_cons]at e
      cases hq:a==b with
      |true=>
        rw[hq]at e
        have:a=b:=beq_iff_eq.mp hq
        subst this
        rw[hb];exact e
      |false=>
        rw[hq]at e
        exact nb h r a o e
theorem tj(h:Heap):(kA h).In h:=fun a o e=>nb h zV a o e
noncomputable def cD:Hook:=⟨Bool×List Bdy,fun s=>(na (kA s.heap),kC (kA s.heap)),fun _=>(true,r6),fun _ h=>∃K:Frag,K.In h∧kB K=true,fun w s e=>⟨_,tj _,B2 e⟩,fun w h h' ⟨K,hi,ha⟩ hk=>⟨K,hi.keeps hk,ha⟩⟩
theorem vZ{α β γ δ:Type}{o:Option α}{f:α→β×γ}{g:α→δ}{b:β}{c:γ}{e:δ}(h1:o.map f=some (b,c))(h2:o.map g=some e):o.map (fun s=>((f s).1,(f s).2,g s))=some (b,c,e):=by
  cases o with
  |none=>cases h1
  |some s=>
    simp only[Option.map_some,Option.some.injEq]at h1 h2 ⊢
    rw[h1,h2]
theorem DN:LeftO prg qv cg XtL cD.obs cD.val 5626:=DG vT vU (fun w os=>vZ (DK w os) (DM w os))
end Mine.Internal
end
section
open PySem PySem.W PySem.Calls PyProof.Rows
namespace Mine.Internal
theorem qc:@noRoadLSs=@PySem.W.Fast.tw8326940854005059898:=PySem.W.Fast.te8326940854005059898
theorem qd:@namesMeet=@PySem.W.Fast.tw17119622794617984870:=PySem.W.Fast.te17119622794617984870
theorem qe:@namesResolve=@PySem.W.Fast.tw8377067652309620493:=PySem.W.Fast.te8377067652309620493
set_option maxHeartbeats 0 in
theorem v_:PySem.Challenge.rw_rh0232_01.wellSaid=true:=by
  delta OpenLaw.wellSaid OpenRow.wellSaid OpenRow.partSaid looksOpen
  rw[qc,qd,qe]
  repeat' with_reducible apply look_both
  all_goals decide +kernel
theorem yr:(defOf qv PySem.Challenge.rw_rh0232_01.row.name).isSome=true:=by kernel_rfl
noncomputable def DO:DefRec×List (Str×Expr):=(defOf qv PySem.Challenge.rw_rh0232_01.row.name).get yr
theorem hd2(walk:WalkO qv cg (XL qv lvL) cD.says PySem.Challenge.rw_rh0232_01.row.toRowW DO.1 DO.2 fun f vs=>PySem.call f vs):PySem.Challenge.rw_rh0232_01.Holds:=
  holds_law v_ fun said=>holds_open (q:=qv) (loose:=cg) (Xt:=XtL) (XP:=XL qv lvL) (Yf:=cD.obs) (Ya:=cD.val) (YP:=cD.says) (N:=5626) DN cD.of cD.keeps
    (fun s e=>xl_of s (Bool.and_eq_true_iff.mp e).1) XL.keeps (by kernel_rfl) (by kernel_rfl) (by kernel_rfl) (fun s e=>recFacts_of (Bool.and_eq_true_iff.mp e).2) rfl said (by decide +kernel) ⟨rfl,rfl,rfl,rfl,rfl,by decide +kernel⟩ (by w_witness2) walk
end Mine.Internal
end
section
namespace Mine.Internal
open PySem PySem.W PySem.Calls PyProof.Rows
structure Facts7 (K:Frag):Prop where
  cls:(clL.all fun p=>rY K p.1 p.2)=true
  fns:(faL.all fun p=>rZ K p.1 p.2)=true
  meth:m_ K=true
  prop:(findIn K (.ref 204) (Str.ofString "columns")==some (some (.ref bC))&&specialIn K (.ref bC) "__get__"==some (some (.builtin "property.__get__"))&&takesIn K (.ref bC)==some true&&
    (match recIn K bC "property" with|some (.ref f::_)=>f==100|_=>false))=true
  bi:(dq.all fun n=>nsIn K mainGlobals (Str.ofString n)==some none)=true
  glob:(r0.all fun g=>match lE g with|some x=>m9 K g x|none=>false)=true
  fn:(faL.all fun p=>p_ K p.1 p.2)=true
theorem B3{K:Frag}(h:kB K=true):Facts7 K:=by
  obtain⟨h,h7⟩:=a2_ h
  obtain⟨h,h6⟩:=a2_ h
  obtain⟨h,h5⟩:=a2_ h
  obtain⟨h1,h2,h3,h4⟩:=a4_ h
  exact⟨h1,h2,h3,h4,h5,h6,h7⟩
theorem B4:(fnL.all fun p=>(faL.lookup p.1).isSome)=true:=by kernel_rfl
theorem wa{K:Frag}(X:Facts7 K){k:String}{fn:Fn}(h:fnT k=some fn):∃f,faL.lookup k=some f∧p_ K k f=true:=by
  obtain⟨f,hf⟩:=Option.isSome_iff_exists.mp (List.all_eq_true.mp B4 (k,fn) (bc h))
  exact⟨f,hf,List.all_eq_true.mp X.fn (k,f) (bc hf)⟩
noncomputable def qf(K:Frag)(w:World)(h₀:Heap)(mg mb:ae→Option Value):Cx:=
  { cl:=⟨fun c=>clL.lookup c,PySem.Challenge.rw_rh0232_01.row.prog,w⟩,K:=K,h₀:=h₀,mg:=mg,mb:=mb,G:=GT,tab:=fnT,fa:=fun k=>faL.lookup k }
structure ClsAt (K:Frag) (c:String) (A:Addr):Prop where
  get:plainGet K A "x"=true
  dict:hasDictIn K A=true
  ns:nsIn K mainGlobals (Str.ofString c)=some (some (.ref A))
  keep:keepIn K (.ref A)=true
  makes:makesIn K A=true
  set:findIn K (.ref A) "__setattr__"=some (some (.builtin "object.__setattr__"))
  over:plainOver K A=true
  attr:∀n∈bk,GT.prop c n=none→takerIn K A (Str.ofString n)=some none∧∃t,findIn K (.ref A) (Str.ofString n)=some t∧noGet K t=true
theorem yt{K:Frag}{o:Option (Option Value)}(h:(match o with|some t=>noGet K t|none=>false)=true):∃t,o=some t∧noGet K t=true:=by
  cases o with
  |none=>exact absurd h Bool.false_ne_true
  |some t=>exact⟨t,rfl,h⟩
theorem B5{K:Frag}{c:String}{A:Addr}(h:rY K c A=true):ClsAt K c A:=by
  obtain⟨h,h8⟩:=a2_ h
  obtain⟨h,h7⟩:=a2_ h
  obtain⟨h,h6⟩:=a2_ h
  obtain⟨h,h5⟩:=a2_ h
  obtain⟨h1,h2,h3,h4⟩:=a4_ h
  refine⟨h1,h2,eq_of_beq h3,h4,h5,eq_of_beq h6,h7,fun n hn hp=>?_⟩
  obtain⟨q1,q2⟩:=a2_ (orR (List.all_eq_true.mp h8 n hn) (by rw[hp];rfl))
  exact⟨eq_of_beq q1,yt q2⟩
theorem DP{a b c:String}:(a++b++c).toList=a.toList++(b.toList++c.toList):=by rw[String.toList_append,String.toList_append,List.append_assoc]
theorem wb{K:Frag}(X:Facts7 K){c m:String}{A f:Addr}(h:clL.lookup c=some A)(hf:faL.lookup (c++"."++m)=some f):findIn K (.ref A) (Str.ofString m)=some (some (.ref f))∧isFn K (.ref f)=true:=by
  have q:=List.all_eq_true.mp (List.all_eq_true.mp X.meth (c,A) (bc h)) (_,f) (bc hf)
  dsimp only at q
  have e:(c++"."++m).toList=(c.toList++['.'])++m.toList:=by rw[DP,List.append_assoc];rfl
  have hl:c.toList.length+1=(c.toList++['.']).length:=by rw[List.length_append];rfl
  rw[e,hl,List.take_left,List.drop_left]at q
  have q:=a2_ (orR q (by rw[beq_self_eq_true];rfl))
  exact⟨String.ofList_toList (s:=m)▸eq_of_beq q.1,q.2⟩
theorem yu{g:String}{x:V}(h:lE g=some x):g∈r0:=List.mem_map.mpr ⟨(g,x),bc h,rfl⟩
theorem B6{c:String}{f:Addr}(h:faL.lookup (c++".__init__")=some f):∃A,clL.lookup c=some A:=by
  have q:=List.all_eq_true.mp yp (_,f) (bc h)
  dsimp only at q
  have e:(c++".__init__").toList=c.toList++dU:=String.toList_append
  have hn:(c.toList++dU).length-dU.length=c.toList.length:=by rw[List.length_append,Nat.add_sub_cancel]
  rw[e,hn,List.drop_left,List.take_left]at q
  exact Option.isSome_iff_exists.mp (String.ofList_toList (s:=c)▸orR q (by rw[beq_self_eq_true];rfl))
theorem yv{c n k:String}(h:GT.prop c n=some k):c="Line"∧n="columns"∧k="Line:columns":=by
  replace h:(if c="Line" then(if n="columns" then some "Line:columns" else none)else none)=some k:=h
  exact oI h fun h1 h=>oI h fun h2 e=>⟨h1,h2,(Option.some.inj e).symm⟩
theorem DQ{o:Option (List Value)}{b:Nat}(h:(match o with|some (.ref f::_)=>f==b|_=>false)=true):∃r,o=some (.ref b::r):=by
  split at h
  · exact⟨_,by rw[eq_of_beq h]⟩
  · cases h
section
variable {K:Frag} {w:World} {h₀:Heap} {mg mb:ae→Option Value}
theorem wc(Z:Facts7 K)(X:K.In h₀)(g:h₀.Ns mainGlobals mg)(b:h₀.Ns builtinsNs mb)(blt:∀x:ae,x≠"__name__"→mb x=bootBuiltins x)(nolimit:h₀.NoLimit):Facts (qf K w h₀ mg mb):=by
  have mgs:∀n v,nsIn K mainGlobals n=some (some v)→mg n=some v:=fun n v e=>mg_of X g e
  have cls:∀{c A},clL.lookup c=some A→ClsAt K c A:=fun h=>B5 (List.all_eq_true.mp Z.cls (_,_) (bc h))
  have fns:∀{k f},faL.lookup k=some f→rZ K k f=true:=fun h=>List.all_eq_true.mp Z.fns (_,_) (bc h)
  refine⟨X,g,b,blt,nolimit,fun gl x hx=>?_,fun f hf=>mg_none_of X g (eq_of_beq (List.all_eq_true.mp Z.bi f hf)),fun c A h n=>(cls h).get,fun c A h=>(cls h).dict,fun k f h=>(a2_ (fns h)).1,fun k f h hp=>mgs _ _ (eq_of_beq (orR (a2_ (fns h)).2 (by rw[List.contains_iff_mem.mpr hp];rfl))),fun k fn h=>?_,fun c A f h hf=>?_,
    fun c f hf=>B6 hf,fun c A m f h hf=>wb Z h hf,fun c A n k h hp=>?_,fun c A h=>⟨(cls h).set,(cls h).over⟩,fun c A h n hn hp=>((cls h).attr n hn hp).1,fun c A h n hn hp=>((cls h).attr n hn hp).2⟩
  · have q:=List.all_eq_true.mp Z.glob gl (yu hx)
    rw[show lE gl=some x from hx]at q
    dsimp only at q
    unfold m9 at q
    split at q
    · rename_i v hv
      exact⟨v,mgs _ v hv,fun y hk hF=>(BY (fun a o e=>hk a o (X a o e)) fun a o e=>hF a o (X a o e)).1 x v q⟩
    · cases q
  · obtain⟨f,_,hf⟩:=wa Z h
    unfold p_ at hf
    rw[show fnT k=some fn from h]at hf
    dsimp only at hf
    split at hf
    · exact dec (a2_ hf).2
    · cases hf
  · have hm:=wb Z (m:="__init__") h (by rw[String.append_assoc];exact hf)
    exact⟨mgs _ _ (cls h).ns,(cls h).keep,(cls h).makes,hm.1,eq_of_beq hm.2⟩
  · obtain⟨rfl,rfl,rfl⟩:=yv hp
    obtain rfl:204=A:=Option.some.inj h
    obtain⟨p1,p2,p3,p4⟩:=a4_ Z.prop
    exact⟨rfl,bC,100,(DQ p4).elim fun r hr=>⟨r,rfl,eq_of_beq p1,eq_of_beq p2,eq_of_beq p3,hr⟩⟩
theorem tl(Z:Facts7 K)(X:K.In h₀)(FC:Facts (qf K w h₀ mg mb))(d:Nat):bM (qf K w h₀ mg mb) (Ph d) d:=by
  refine vS (C:=qf K w h₀ mg mb) FC (fun k fn h=>?_) d
  obtain⟨f,hf,hok⟩:=wa Z h
  unfold p_ at hok
  rw[show fnT k=some fn from h]at hok
  dsimp only at hok
  split at hok
  · rename_i oc od fd sl ho
    obtain⟨o,fd',body,T⟩:=ym (C:=qf K w h₀ mg mb) rfl X ho (a2_ hok).1
    exact⟨f,o,fd',body,hf,T⟩
  · cases hok
end
end Mine.Internal
end
section
namespace Mine.Internal
open PySem PySem.W PySem.Calls PyProof.Rows
theorem we{C:Cx}{y:Y}{vs:List Value}{ns:List Int}(h:IntsAre vs ns):al C y vs (ns.map .int):=by
  induction h with
  |nil=>rfl
  |cons n t r ih=>exact⟨_,_,rfl,⟨t,rfl⟩,ih⟩
theorem yw{K:Frag}(Z:Facts7 K){w:World}{s:Shared}{mg mb:ae→Option Value}(X:K.In s.heap)(g:s.heap.Ns mainGlobals mg)(b:s.heap.Ns builtinsNs mb)(blt:∀x:ae,x≠"__name__"→mb x=bootBuiltins x)(nolimit:s.heap.NoLimit){l:List Int}{outs:List M}
    (hΦ:Ph 20 "law" [.v (.lst (l.map .int))]=some (.v (.bool true),outs)){a:Addr}{vs:List Value}(hl:s.heap.PlainList a vs.toArray)(hi:IntsAre vs l)(hz:l.length≤63){fa:Addr}(hfa:mg (Str.ofString "law")=some (.ref fa)){Q:Value→Shared→Prop}{E:Value→Shared→Prop}
    (hQ:∀s',nN s s'→(∀b o,s.heap.get? b=some o→s'.heap.get? b=some o)→Q (.bool true) s'):wpAny (model PySem.Challenge.rw_rh0232_01.row.prog w) callerA (call (.ref fa) [.ref a]) Q E s:=by
  have FC:Facts (qf K w s.heap mg mb):=wc Z X g b blt nolimit
  obtain⟨fn,f,htab,hf,H⟩:=tl Z X FC 20 "law" _ _ _ hΦ
  obtain rfl:f=fa:=Value.ref.inj (Option.some.inj ((FC.fnG "law" f hf (by decide)).symm.trans hfa))
  have hB:BudC callerA 20:=⟨rfl,by have:callerA.depth=301:=rfl;lia,by have:callerA.units=4:=rfl;lia⟩
  have hr:aV (qf K w s.heap mg mb) ⟨s,fun b=>∃o,s.heap.get? b=some o,[],[]⟩ (.ref a) (.lst (l.map .int)):=by
    refine⟨a,vs.toArray,rfl,?_,hl,by rw[List.length_map];exact Nat.le_trans hz (by decide),we hi⟩
    obtain⟨n,ho⟩:=hl;exact⟨_,ho⟩
  refine wpAny_call (codeAny_mono (H (y:=⟨s,fun b=>∃o,s.heap.get? b=some o,[],[]⟩) (as:=[⟨.none,.ref a,.v (.lst (l.map .int)),[]⟩]) (X:=[]) (Q:=fun v s'=>Q v s') hB rfl (fun b hb=>List.mem_singleton.mp hb▸⟨rfl,hr⟩) ⟨fun _ _ e=>e,.nil,nin,fun _ h=>h,fun _ o e=>⟨o,e⟩⟩ fun v y' fr gs R=>?_) fun res s' ⟨v,e,h⟩=>?_)
  · obtain rfl:v=.bool true:=R.rep.2
    exact hQ y'.s R.mv.same fun b o e=>R.mv.keep b nofun o e
  · subst e
    exact h
theorem join(hp:∀l:List Int,l.length≤63→∃outs,Ph 20 "law" [.v (.lst (l.map .int))]=some (.v (.bool true),outs)):PySem.Challenge.rw_rh0232_01.Holds:=hd2 (by
  intro w s₀ s₁ mg mb G Y fa o pm cd doc dV kV ho hd hcd hD hmg hg args a5 as hpre hlay hrd hwl hlo
  obtain⟨K,KX,hK⟩:=Y
  have gT:=G.T.g
  have bT:=G.T.b
  have blt:=G.T.builtins
  have nol:=G.T.nolimit
  clear hd hcd hD G
  wrow_args hpre hlay hrd hwl hlo
  rename_i l _ _ _ _ _ _ _ a vs _ hl _ hw _ hi _ hc _
  have hlen:l.length≤63:=by omega
  obtain⟨outs,hΦ⟩:=hp l hlen
  have hpl:s₁.heap.PlainList a vs.toArray:=by
    obtain⟨o',ho',_,n,hd'⟩:=id hl
    have hw':∃vs':List Value,s₁.heap.get? a=some { cls:=.type "list",data:=.seq vs'.toArray }:=by
      generalize hq:ofPy (PyData.list (List.map PyData.int l))=q at hw
      cases hw with
      |list h _=>exact⟨_,h⟩
      |_=>simp[ofPy]at hq
    obtain⟨vs',hv⟩:=hw'
    rw[hv]at ho'
    cases ho'
    have e:vs'.toArray=vs.toArray:=by
      have hd':PySem.Data.seq vs'.toArray 0=.seq vs.toArray n:=hd'
      injection hd'
    rw[e]at hv
    exact⟨0,hv⟩
  refine yw (B3 hK) KX gT bT blt nol hΦ hpl hi hlen hmg fun s' hs hk=>?_
  obtain⟨h',t',rfl⟩:=hs
  refine GoodW.toG ⟨.inl ⟨_,.bool true,[],rfl,?_,.bool _,?_,fun _=>⟨.nil,fun _ h=>nomatch h⟩⟩,hk,rfl,hg⟩
  · exact raisesW_false (by wrow_none_raised)
  · wrow_post)
end Mine.Internal
end
section
namespace Mine.Internal
theorem yx(d:Nat)(k:String)(as:List M):Ph (d+1) k as=(fnT k).bind fun f=>nL GT (Ph d) f as:=rfl
@[simp] theorem i9:fnT "is_blank"=some ⟨1,[false],jK,1,jJ⟩:=by kernel_rfl
@[simp] theorem gZ:fnT "is_plain_blank"=some ⟨1,[false],dI,1,dH⟩:=by kernel_rfl
@[simp] theorem kD:fnT "line_blanks"=some ⟨2,[false,false],fH,2,fG⟩:=by kernel_rfl
@[simp] theorem fX:fnT "line_slice"=some ⟨3,[false,false,false],gG,4,gF⟩:=by kernel_rfl
@[simp] theorem nc:fnT "Line.__init__"=some ⟨3,[true,false,false],i0,3,iZ⟩:=by kernel_rfl
@[simp] theorem jo:fnT "Line:columns"=some ⟨1,[false],eB,1,eA⟩:=by kernel_rfl
@[simp] theorem ng:fnT "Line.copy"=some ⟨1,[false],i5,2,i4⟩:=by kernel_rfl
@[simp] theorem el:fnT "Line.resized"=some ⟨3,[false,false,false],eD,4,eC⟩:=by kernel_rfl
@[simp] theorem qg:fnT "line_of"=some ⟨3,[false,false,false],ly,4,lx⟩:=by kernel_rfl
@[simp] theorem fD:fnT "LogicalLine.__init__"=some ⟨3,[true,false,false],cX,3,cW⟩:=by kernel_rfl
@[simp] theorem gm:fnT "LogicalLine.put"=some ⟨2,[true,false],dl,2,dk⟩:=by kernel_rfl
@[simp] theorem d9:fnT "LogicalLine.kept_to"=some ⟨2,[true,false],cc,2,cb⟩:=by kernel_rfl
@[simp] theorem bY:fnT "LogicalLine.size_of"=some ⟨2,[false,false],cf,2,ce⟩:=by kernel_rfl
@[simp] theorem a8:fnT "LogicalLine.offset_of"=some ⟨3,[false,false,false],bP,4,bO⟩:=by kernel_rfl
@[simp] theorem kE:fnT "reflow_used"=some ⟨1,[false],fJ,2,fI⟩:=by kernel_rfl
@[simp] theorem eu:fnT "reflow_begins_wide"=some ⟨1,[false],cy,1,cx⟩:=by kernel_rfl
@[simp] theorem bZ:fnT "reflow_part"=some ⟨2,[false,false],fL,3,fK⟩:=by kernel_rfl
@[simp] theorem b0:fnT "reflow_goes_on"=some ⟨2,[false,false],dK,2,dJ⟩:=by kernel_rfl
@[simp] theorem fY:fnT "logical_of"=some ⟨1,[false],gI,4,gH⟩:=by kernel_rfl
@[simp] theorem gn:fnT "cut_with_places"=some ⟨2,[false,false],dm,10,bU⟩:=by kernel_rfl
@[simp] theorem er:fnT "reflow_place"=some ⟨3,[false,false,false],eF,3,eE⟩:=by kernel_rfl
@[simp] theorem kF:fnT "reflow_line"=some ⟨3,[false,false,false],fN,6,fM⟩:=by kernel_rfl
@[simp] theorem jp:fnT "Cutting.__init__"=some ⟨5,[true,false,false,false,false],eH,6,eG⟩:=by kernel_rfl
@[simp] theorem kG:fnT "Cutting.put"=some ⟨5,[true,true,false,false,false],fO,19,a6⟩:=by kernel_rfl
@[simp] theorem cE:fnT "Cutting.go_behind"=some ⟨1,[true],cL,1,cK⟩:=by kernel_rfl
@[simp] theorem ba:fnT "Cutting.place_of"=some ⟨3,[false,false,false],cZ,9,cY⟩:=by kernel_rfl
@[simp] theorem gp:fnT "Cutting.give_up"=some ⟨2,[true,false],dp,3,bV⟩:=by kernel_rfl
@[simp] theorem eU:fnT "Cutting.top"=some ⟨2,[false,false],fQ,2,fP⟩:=by kernel_rfl
@[simp] theorem i_:fnT "_law_take"=some ⟨2,[true,false],jM,3,jL⟩:=by kernel_rfl
@[simp] theorem oC:fnT "_law_line"=some ⟨2,[true,false],jO,6,jN⟩:=by kernel_rfl
@[simp] theorem eV:fnT "_law_goes_on"=some ⟨2,[false,false],fS,2,fR⟩:=by kernel_rfl
@[simp] theorem eW:fnT "_law_is_free"=some ⟨2,[false,false],fU,3,fT⟩:=by kernel_rfl
@[simp] theorem oD:fnT "_law_told"=some ⟨3,[false,false,false],jQ,6,jP⟩:=by kernel_rfl
@[simp] theorem oH:fnT "_law_laid"=some ⟨2,[false,false],jS,9,jR⟩:=by kernel_rfl
@[simp] theorem bp:fnT "_law_other_size"=some ⟨6,[true,false,false,false,false,false],dM,12,dL⟩:=by kernel_rfl
@[simp] theorem ch:fnT "_law_cursor_in"=some ⟨4,[true,false,false,false],eh,7,ef⟩:=by kernel_rfl
@[simp] theorem jq:fnT "_law_together"=some ⟨7,[true,false,false,false,false,false,false],eJ,25,eI⟩:=by kernel_rfl
@[simp] theorem qh:fnT "_law_cut"=some ⟨4,[false,false,false,false],lD,7,lz⟩:=by kernel_rfl
@[simp] theorem oJ:fnT "_law_seen"=some ⟨1,[false],jU,1,jT⟩:=by kernel_rfl
@[simp] theorem dt:fnT "_law_rest"=some ⟨4,[true,true,false,false],jW,7,jV⟩:=by kernel_rfl
@[simp] theorem B7:fnT "law"=some ⟨1,[false],zm,18,qR⟩:=by kernel_rfl
@[simp] theorem qi:GT.io "cut_with_places"=[false,false]:=by kernel_rfl
@[simp] theorem zX:GT.io "_law_laid"=[false,false]:=by kernel_rfl
noncomputable def mp{α β:Type}(f:α→β)(o:Option α):Option β:=o.map f
noncomputable def gd{α β:Type}(b:Bool)(k:β→Option α)(x:β):Option α:=if b then k x else none
noncomputable def ngd{α β:Type}(b:Bool)(k:β→Option α)(x:β):Option α:=if b then none else k x
noncomputable def nXt(σ:List M):Fl×List M:=(.next,σ)
noncomputable def gt(σ:List M)(i:Nat):Option M:=σ[i]?
noncomputable def st(σ:List M)(i:Nat)(m:M):Option (List M):=if i<σ.length then some (σ.set i m)else none
section
variable {G:Tab} {Φ:Phi} {σ:List M}
noncomputable def cpZ(r:List M×List M):Option (M×List M):=if r.1.length≤big then some (bF r.1,r.2)else Option.none
noncomputable def cpY(G:Tab)(Φ:Phi)(elt:E)(p:P)(cond:Option E)(σ:List M)(xs:List V):Option (M×List M):=(ac (bu G Φ elt p cond) xs σ).bind cpZ
noncomputable def cpX(G:Tab)(Φ:Phi)(elt:E)(p:P)(cond:Option E)(q:List M×List M):Option (M×List M):=(a5 q.1).bind (cpY G Φ elt p cond q.2)
noncomputable def cpS(G:Tab)(Φ:Phi)(elt:E)(p:P)(s:Src)(cond:Option E)(σ:List M):Option (M×List M):=(evS G Φ (!(elt.calm G.io&&E.calmO G.io cond)) s σ).bind (cpX G Φ elt p cond)
@[simp] theorem B8(elt:E)(p:P)(s:Src)(cond:Option E):ev G Φ (.comp elt p s cond) σ=ngd (!gD p σ) (cpS G Φ elt p s cond) σ:=rfl
noncomputable def g9(f:Option (Fl×List M))(k:List M→Option (Fl×List M)):Option (Fl×List M):=f.bind fun p=>match p.1 with
    |.next=>k p.2
    |.ret m=>some (.ret m,p.2)
@[simp] theorem g_(σ:List M)(k:List M→Option (Fl×List M)):g9 (some (.next,σ)) k=k σ:=rfl
@[simp] theorem jd(m:M)(σ:List M)(k:List M→Option (Fl×List M)):g9 (some (.ret m,σ)) k=some (.ret m,σ):=rfl
@[simp] theorem DR:exs G Φ [] σ=some (.next,σ):=rfl
@[simp] theorem qj(s:S)(r:List S):exs G Φ (s::r) σ=g9 (ex G Φ s σ) (exs G Φ r):=rfl
noncomputable def xaY(G:Tab)(Φ:Phi)(t:T)(m:M)(σ:List M):Option (Fl×List M):=mp nXt (store G Φ t m σ)
noncomputable def xaX(G:Tab)(Φ:Phi)(t:T)(e:E)(p:M×List M):Option (Fl×List M):=gd (ga e p.1) (xaY G Φ t p.1) p.2
@[simp] theorem wg(t:T)(e:E):ex G Φ (.asg t e) σ=(ev G Φ e σ).bind (xaX G Φ t e):=rfl
noncomputable def cJ(G:Tab)(Φ:Phi)(c:E)(b:List S)(σ:List M):Option (List M ⊕ (Fl×List M)):=(ev G Φ c σ).bind fun p=>p.1.bool?.bind fun z=>if z then(exs G Φ b p.2).map fun q=>(match q.1 with|.next=>.inl q.2|.ret m=>.inr (.ret m,q.2))else some (.inr (.next,p.2))
theorem DS(c:E)(b:List S):ex G Φ (.whl c b) σ=iter (cJ G Φ c b) σ:=rfl
noncomputable def hH(G:Tab)(Φ:Phi)(p:P)(b:List S)(x:M)(σ:List M):Option (Fl×List M):=(iY p x σ).bind (exs G Φ b)
noncomputable def xfK(G:Tab)(Φ:Phi)(p:P)(b:List S)(q:List M×List M):Option (Fl×List M):=cw (hH G Φ p b) q.1 q.2
@[simp] theorem l9(p:P)(s:Src)(b:List S):ex G Φ (.for_ p s b) σ=(evS G Φ true s σ).bind (xfK G Φ p b):=rfl
noncomputable def tcK(G:Tab)(Φ:Phi)(r:List T)(ms σ:List M):Option (List M):=stores G Φ r ms σ
end
inductive Runs {α β:Type} (f:α→Option (α ⊕ β)):Nat→α→β→Prop
  |done {a b}:f a=some (.inr b)→Runs f 0 a b
  |step {n a a' b}:f a=some (.inl a')→Runs f n a' b→Runs f (n+1) a b
theorem Runs.iterN{α β:Type}{f:α→Option (α ⊕ β)}{n:Nat}{a:α}{b:β}(h:Runs f n a b):∀k,n<k→Mine.Internal.iterN f k a=some b:=by
  induction h with
  |done h=>intro k hk;cases k with
    |zero=>(exact absurd (by trivial) (Nat.not_lt.mpr (by trivial)))
    |succ k=>rw[qQ,h];rfl
  |step h _ ih=>intro k hk;cases k with
    |zero=>(exact absurd (by trivial) (Nat.not_lt.mpr (by trivial)))
    |succ k=>rw[qQ,h];exact ih k (by(exact Nat.succ_lt_succ_iff.mp hk))
theorem Runs.iter{α β:Type}{f:α→Option (α ⊕ β)}{n:Nat}{a:α}{b:β}(h:Runs f n a b)(hn:n<big):Mine.Internal.iter f a=some b:=h.iterN big hn
end Mine.Internal
end
section
namespace Mine.Internal
inductive Or where
  |b (t:Bool)|m (x:M)|k|n (x:M)|a (x:M)|d (t:Bool)|p|c (r:M) (outs:List M)|s (f:Fl) (σ:List M)
noncomputable def yy(z:Bool)(k:Bool→List Or→Prop):List Or→Prop
  |.b t::os=>z=t∧k t os
  |_=>False
noncomputable def yz(z:Bool)(k:Bool→List Or→Prop)(p:List Or→Prop):List Or→Prop
  |.p::os=>p os
  |os=>yy z k os
noncomputable def kH(o:Option M)(k:M→List Or→Prop):List Or→Prop
  |.m x::os=>o=some x∧k x os
  |_=>False
noncomputable def oNn(x:M)(k:M→List Or→Prop):List Or→Prop
  |.n y::os=>x=y∧k y os
  |.k::os=>k x os
  |os=>k x os
noncomputable def oG(x:M)(k:M→List Or→Prop):List Or→Prop
  |.a y::os=>x=y∧k y os
  |os=>k x os
noncomputable def oo{α:Type}(k:α→List Or→Prop)(os:List Or):Option α→Prop
  |some x=>k x os
  |none=>False
noncomputable def onB(b:Bool)(p:Prop):Prop:=match b with
  |true=>p
  |false=>False
section
variable (G:Tab) (Φ:Phi)
noncomputable def yA(σ:List M)(k:M→List Or→Prop)(os:List Or):Option M→Prop
  |some .undef=>False
  |some m=>k m os
  |none=>False
noncomputable def r8(f:String)(io:List Bool)(es:List E)(ms σ:List M)(k:M→List M→List Or→Prop):List Or→Prop
  |.c r outs::os=>onB (cV (ee io es)) (oo (fun as os=>Φ f as=some (r,outs)∧(match lg io es ms with
    |false=>oo (k r) os (cv io es outs σ)
    |true=>(r.indep&&io.all (!·))=true∧oo (k r) os (cv io es outs σ))) os (fE io ms))
  |_=>False
noncomputable def oI2(x y:M)(f:Int→Int→M)(d:Prop)(k:M→Prop):Prop:=match x.int? with
  |none=>d
  |some a=>match y.int? with
    |none=>d
    |some b=>k (f a b)
noncomputable def DT(op:Op)(x y:M)(k:M→List Or→Prop)(os:List Or):Prop:=match op with
  |.add=>oI2 x y (fun a b=>.v (.int (a+b))) (kH (a9 .add x y) k os) (k · os)
  |.sub=>oI2 x y (fun a b=>.v (.int (a-b))) (kH (a9 .sub x y) k os) (k · os)
  |op=>kH (a9 op x y) k os
noncomputable def oSt(j:M)(d:Prop)(k:String→Prop):Prop:=match j with
  |.v x=>(match x with|.str s=>k s|_=>d)
  |_=>d
noncomputable def oTp(x:V)(d k:Prop):Prop:=match x with
  |.tup _=>k
  |_=>d
noncomputable def zY(m j:M)(k:M→List Or→Prop)(os:List Or):Prop:=match m with
  |.dct fs=>oSt j (kH (item (.dct fs) j) k os) fun s=>oo k os (fs.lookup s)
  |.v x=>oTp x (kH (item (.v x) j) k os) (oo k os (item (.v x) j))
  |m=>kH (item m j) k os
noncomputable def DU(m:M):Option M:=match m with
  |.lst l=>some (.v (.int l.length))
  |.v (.lst l)=>some (.v (.int l.length))
  |m=>m.seq?.map fun l=>.v (.int l.length)
noncomputable def B9(f:String)(a b:M)(x y:Int):Option M:=if f="max" then some (.v (.int (max x y)))else if f="min" then some (.v (.int (min x y)))else cu f [a,b]
noncomputable def B_(f:String)(a b:M):Option M:=match a.int? with
  |none=>cu f [a,b]
  |some x=>match b.int? with
    |none=>cu f [a,b]
    |some y=>B9 f a b x y
noncomputable def ER(f:String)(a b:M)(r:List M):Option M:=match r with
  |[]=>B_ f a b
  |c::r=>cu f (a::b::c::r)
noncomputable def ES(f:String)(a:M)(q:List M):Option M:=match q with
  |[]=>if f="len" then DU a else cu f [a]
  |b::r=>ER f a b r
noncomputable def DV(f:String)(l:List M):Option M:=match l with
  |[]=>cu f []
  |a::q=>ES f a q
theorem r9(l:List V):some (M.v (.int l.length))=(some (l.map M.v)).map fun l=>.v (.int l.length):=by
  rw[Option.map_some,List.length_map]
theorem tm(x y:Int):(if x≤y then y else x)=if x<y then y else x:=by
  rcases Int.lt_trichotomy x y with h|h|h
  · rw[if_pos (Int.le_of_lt h),if_pos h]
  · subst h;rw[if_pos (Int.le_refl _),if_neg (Int.lt_irrefl _)]
  · rw[if_neg (Int.not_le.mpr h),if_neg (Int.not_lt.mpr (Int.le_of_lt h))]
theorem qk(x y:Int):min x y=if y<x then y else x:=by
  rw[Int.min_def]
  by_cases h:y<x
  · rw[if_pos h,if_neg (Int.not_le.mpr h)]
  · rw[if_neg h,if_pos (Int.not_lt.mp h)]
theorem int_e{m:M}{i:Int}(h:m.int?=some i):m=.v (.int i):=by
  cases m with
  |v x=>cases x with
    |int j=>exact congrArg (fun i=>M.v (.int i)) (Option.some.inj h)
    |_=>cases h
  |_=>cases h
theorem yB(f:String)(x y:Int):B9 f (.v (.int x)) (.v (.int y)) x y=cu f [.v (.int x),.v (.int y)]:=by
  unfold B9
  by_cases h:f="max"
  · subst h;exact congrArg (fun x=>some (M.v (.int x))) (Int.max_def x y▸tm x y)
  · rw[if_neg h]
    by_cases h:f="min"
    · subst h;exact congrArg (fun x=>some (M.v (.int x))) (qk x y)
    · rw[if_neg h]
theorem yC(f:String)(l:List M):DV f l=cu f l:=by
  cases l with
  |nil=>rfl
  |cons a q=>cases q with
    |nil=>
      show(if f="len" then DU a else cu f [a])=_
      by_cases h:f="len"
      · subst h
        cases a with
        |v x=>cases x<;>first|rfl|(rename_i l;exact r9 l)
        |lst l=>exact r9 l
        |_=>rfl
      · exact if_neg h
    |cons b r=>cases r with
      |cons c r=>rfl
      |nil=>
        show B_ f a b=_
        unfold B_
        cases ha:a.int? with
        |none=>rfl
        |some x=>cases hb:b.int? with
          |none=>rfl
          |some y=>rw[int_e ha,int_e hb];exact yB f x y
noncomputable def wh(op:COp)(x y:M)(k:Bool→List Or→Prop):List Or→Prop
  |.d z::os=>bn op x y=some z∧k z os
  |os=>oo k os (bn op x y)
noncomputable def Ca(m:M)(k:M→List Or→Prop)(os:List Or):Prop:=oo k os m.def?
mutual
noncomputable def oE:E→List M→(M→List M→List Or→Prop)→List Or→Prop
  |.none,σ,k,os=>k (.v .none) σ os
  |.bool b,σ,k,os=>k (.v (.bool b)) σ os
  |.int i,σ,k,os=>k (.v (.int i)) σ os
  |.str s,σ,k,os=>k (.v (.str s)) σ os
  |.var i,σ,k,os=>yA σ (fun m os=>k m σ os) os σ[i]?
  |.mov i,σ,k,os=>yA σ (fun m os=>k m (σ.set i .undef) os) os σ[i]?
  |.glob g,σ,k,os=>oo (fun x os=>k (.v x) σ os) os (G.glob g)
  |.attr e a,σ,k,os=>oE e σ (fun m σ os=>oo (fun p os=>match G.prop p.1 a with
      |some f=>onB (e.calm G.io) (r8 Φ f [false] [e] [m] σ (fun x σ os=>Ca x (fun x os=>k x σ os) os) os)
      |Option.none=>oo (fun x os=>Ca x (fun x os=>k x σ os) os) os (p.2.lookup a)) os m.fields?) os
  |.sub e i,σ,k,os=>oE e σ (fun m σ os=>onB (i.calm G.io||m.isV) (oE i σ (fun j σ os=>zY m j (fun x os=>k x σ os) os) os)) os
  |.slc e lo hi,σ,k,os=>onB (E.calmO G.io lo&&E.calmO G.io hi) (oE e σ (fun m σ os=>oo (fun l os=>oO lo σ (fun a σ os=>oO hi σ (fun b σ os=>k (.lst (cut l (cT a l.length) (cU b l.length))) σ os) os) os) os m.list?) os)
  |.bin op a b,σ,k,os=>oE a σ (fun x σ os=>onB (x.isV||b.calm G.io) (oE b σ (fun y σ os=>DT op x y (fun z os=>k z σ os) os) os)) os
  |.neg a,σ,k,os=>oE a σ (fun x σ os=>oo (fun i os=>k (.v (.int (-i))) σ os) os x.int?) os
  |.not a,σ,k,os=>oE a σ (fun x σ os=>oo (fun b os=>k (ofB (!b)) σ os) os x.bool?) os
  |.cmp op a b,σ,k,os=>oE a σ (fun x σ os=>onB (x.isV||b.calm G.io) (oE b σ (fun y σ os=>wh op x y (fun z os=>k (ofB z) σ os) os) os)) os
  |.cmp2 o1 o2 a b c,σ,k,os=>onB (b.calm G.io&&c.calm G.io) (oE a σ (fun x σ os=>oE b σ (fun y σ os=>wh o1 x y (fun z os=>yz z (fun t os=>match t with
      |true=>oE c σ (fun u σ os=>wh o2 y u (fun z os=>k (ofB z) σ os) os) os
      |false=>k (ofB false) σ os) (oE c σ (fun u τ os=>τ=σ∧wh o2 y u (fun w os=>k (ofB (z&&w)) σ os) os)) os) os) os) os)
  |.and l,σ,k,os=>yD l σ k os
  |.or l,σ,k,os=>oOr l σ k os
  |.ite c a b,σ,k,os=>oE c σ (fun x σ os=>oo (fun z os=>yy z (fun t os=>match t with
      |true=>oE a σ k os
      |false=>oE b σ k os) os) os x.bool?) os
  |.frz e,σ,k,os=>oE e σ (fun m σ os=>onB (e.temp||m.isV) (oo (fun x os=>k (.v x) σ os) os m.toV)) os
  |.tup l,σ,k,os=>oL l σ (fun ms σ os=>k (jG ms) σ os) os
  |.lst l,σ,k,os=>oL l σ (fun ms σ os=>k (bF ms) σ os) os
  |.dct l,σ,k,os=>oF l σ (fun fs σ os=>k (.dct fs) σ os) os
  |.call f l,σ,k,os=>onB (E.calms G.io l) (oAa l σ (fun ms σ os=>r8 Φ f (G.io f) l ms σ k os) os)
  |.bi f l,σ,k,os=>onB (E.calms G.io l) (oAa l σ (fun ms σ os=>oo (fun m os=>k m σ os) os (DV f ms)) os)
  |.meth e c m f l,σ,k,os=>onB (e.calm G.io&&E.calms G.io l) (oE e σ (fun o σ os=>oAa l σ (fun ms σ os=>oo (fun p os=>onB (decide (p.1=c)) (match p.2.lookup m with
      |some _=>False
      |Option.none=>r8 Φ f (G.io f) (e::l) (o::ms) σ k os)) os o.fields?) os) os)
  |.new c f l,σ,k,os=>onB (E.calms G.io l) (oAa l σ (fun ms σ os=>onB (ms.all M.isV&&mx (G.io f)) (match os with
      |.c r (o::q)::os=>r=.v .none∧Φ f (.obj c []::ms)=some (r,o::q)∧k o σ os
      |_=>False)) os)
  |.comp x p s c,σ,k,os=>(match os with
      |.m y::os=>ev G Φ (.comp x p s c) σ=some (y,σ)∧k y σ os
      |_=>False)
noncomputable def oO:Option E→List M→(Option Int→List M→List Or→Prop)→List Or→Prop
  |Option.none,σ,k,os=>k Option.none σ os
  |some e,σ,k,os=>oE e σ (fun m σ os=>oo (fun i os=>k (some i) σ os) os m.int?) os
noncomputable def yD:List E→List M→(M→List M→List Or→Prop)→List Or→Prop
  |[],_,_,_=>False
  |e::r,σ,k,os=>oE e σ (fun m σ os=>oo (fun z os=>match r with
      |[]=>k (ofB z) σ os
      |_::_=>yz z (fun t os=>match t with
        |true=>yD r σ k os
        |false=>k (ofB false) σ os) (yD r σ (fun n τ os=>τ=σ∧oo (fun y os=>k (ofB (z&&y)) σ os) os n.bool?)) os) os m.bool?) os
noncomputable def oOr:List E→List M→(M→List M→List Or→Prop)→List Or→Prop
  |[],_,_,_=>False
  |e::r,σ,k,os=>oE e σ (fun m σ os=>oo (fun z os=>match r with
      |[]=>k (ofB z) σ os
      |_::_=>yz z (fun t os=>match t with
        |true=>k (ofB true) σ os
        |false=>oOr r σ k os) (oOr r σ (fun n τ os=>τ=σ∧oo (fun y os=>k (ofB (z||y)) σ os) os n.bool?)) os) os m.bool?) os
noncomputable def oL:List E→List M→(List M→List M→List Or→Prop)→List Or→Prop
  |[],σ,k,os=>k [] σ os
  |e::r,σ,k,os=>oE e σ (fun m σ os=>onB (e.temp||m.isV) (oL r σ (fun ms σ os=>k (m::ms) σ os) os)) os
noncomputable def oF:List (String×E)→List M→(List (String×M)→List M→List Or→Prop)→List Or→Prop
  |[],σ,k,os=>k [] σ os
  |(n,e)::r,σ,k,os=>oE e σ (fun m σ os=>onB (e.temp||m.isV) (oF r σ (fun ms σ os=>k ((n,m)::ms) σ os) os)) os
noncomputable def oAa:List E→List M→(List M→List M→List Or→Prop)→List Or→Prop
  |[],σ,k,os=>k [] σ os
  |e::r,σ,k,os=>oE e σ (fun m σ os=>oG m (fun m os=>oAa r σ (fun ms σ os=>k (m::ms) σ os) os) os) os
end
noncomputable abbrev Fu:=M→(M→List Or→Prop)→List Or→Prop
noncomputable def oUF(a:String)(F:Fu):List (String×M)→(List (String×M)→List Or→Prop)→List Or→Prop
  |[],_,_=>False
  |(n,x)::r,k,os=>match decide (n=a)with
    |true=>F x (fun y os=>k ((n,y)::r) os) os
    |false=>oUF a F r (fun q os=>k ((n,x)::q) os) os
noncomputable def yE(a:String)(F:Fu):Fu
  |.obj c fs,k,os=>(match G.prop c a with
    |Option.none=>oUF a F fs (fun fs os=>k (.obj c fs) os) os
    |some _=>False)
  |_,_,_=>False
noncomputable def DW(j:M)(f:M→Option M)(F:Fu):Fu
  |.dct fs,k,os=>(match j with
    |.v (.str s)=>oUF s F fs (fun fs os=>k (.dct fs) os) os
    |_=>False)
  |m,k,os=>kH (dv j f m) k os
noncomputable def oU:E→(M→Option M)→Fu→List M→(List M→List Or→Prop)→List Or→Prop
  |.var i,_,F,σ,k,os=>yA σ (fun m os=>F m (fun y os=>k (σ.set i y) os) os) os σ[i]?
  |.attr p a,f,F,σ,k,os=>oU p (f_ G a f) (yE G a F) σ k os
  |.sub p i,f,F,σ,k,os=>onB (i.calm G.io) (oE G Φ i σ (fun j _ os=>oU p (dv j f) (DW j f F) σ k os) os)
  |_,_,_,_,_,_=>False
noncomputable def zZ(keep:Bool)(m:M):Fu:=fun x k os=>match keep,x with
  |false,.lst l=>oo (fun v os=>(l++[v]).length≤big∧oNn (.lst (l++[v])) k os) os m.toV
  |true,.lst l=>l.length<big∧oNn (.lstM (l.map .v++[m])) k os
  |true,.lstM l=>l.length<big∧oNn (.lstM (l++[m])) k os
  |_,_=>False
noncomputable def DX(m:M):Fu:=fun x k os=>match x with
  |.lst l=>oo (fun v os=>(l++v).length≤big∧oNn (.lst (l++v)) k os) os m.list?
  |_=>False
noncomputable def DY:Fu:=fun x k os=>match x with
  |.lst l=>l.isEmpty=false∧oNn (.lst l.dropLast) k os
  |_=>False
noncomputable def oOf(f:M→Option M):Fu:=fun x k os=>oo k os (f x)
noncomputable def DZ(f:M→Option M):Fu:=fun x k os=>match x with
  |.dct fs=>oo k os (f (.dct fs))
  |x=>kH (f x) k os
mutual
noncomputable def oT:T→M→List M→(List M→List Or→Prop)→List Or→Prop
  |.var i keep,m,σ,k,os=>onB (decide (i<σ.length)) (match keep with
    |true=>oNn m (fun m os=>k (σ.set i m) os) os
    |false=>oo (fun m os=>oNn m (fun m os=>k (σ.set i m) os) os) os (dG m))
  |.tup l,m,σ,k,os=>oo (fun ms os=>oTs l ms σ k os) os m.unp?
  |.attr o a,m,σ,k,os=>oNn m (fun m os=>oU G Φ o (my G a m) (oOf (my G a m)) σ k os) os
  |.sub o i,m,σ,k,os=>onB (i.calm G.io) (oE G Φ i σ (fun j _ os=>oNn m (fun m os=>oU G Φ o (lh j m) (DZ (lh j m)) σ k os) os) os)
noncomputable def oTs:List T→List M→List M→(List M→List Or→Prop)→List Or→Prop
  |[],[],σ,k,os=>k σ os
  |t::r,m::ms,σ,k,os=>oT t m σ (fun σ os=>oTs r ms σ k os) os
  |_,_,_,_,_=>False
end
noncomputable def oFl(f:Fl)(a:Prop)(b:M→Prop):Prop:=match f with
  |.next=>a
  |.ret m=>b m
mutual
noncomputable def oS':S→List M→(Fl→List M→List Or→Prop)→List Or→Prop
  |.asg t e,σ,k,os=>oE G Φ e σ (fun m σ os=>onB (ga e m) (oT G Φ t m σ (fun σ os=>k .next σ os) os)) os
  |.expr e,σ,k,os=>oE G Φ e σ (fun _ σ os=>k .next σ os) os
  |.app p e keep,σ,k,os=>onB (e.calm G.io) (oE G Φ e σ (fun m _ os=>onB (ga e m) (oU G Φ p (if keep then fF m else jI m) (zZ keep m) σ (fun σ os=>k .next σ os) os)) os)
  |.ext p e,σ,k,os=>onB (e.calm G.io) (oE G Φ e σ (fun m _ os=>oU G Φ p (pA m) (DX m) σ (fun σ os=>k .next σ os) os) os)
  |.pop p,σ,k,os=>oU G Φ p sA DY σ (fun σ os=>k .next σ os) os
  |.ite c a b,σ,k,os=>oE G Φ c σ (fun m σ os=>oo (fun z os=>yy z (fun t os=>match t with
      |true=>oSs a σ k os
      |false=>oSs b σ k os) os) os m.bool?) os
  |.ret e,σ,k,os=>(match e with
    |Option.none=>k (.ret (.v .none)) σ os
    |some e=>oE G Φ e σ (fun m σ os=>onB (ga e m) (oNn m (fun m os=>k (.ret m) σ os) os)) os)
  |.frz p,σ,k,os=>oU G Φ p dG (oOf dG) σ (fun σ os=>k .next σ os) os
  |_,_,_,_=>False
noncomputable def oSs:List S→List M→(Fl→List M→List Or→Prop)→List Or→Prop
  |[],σ,k,os=>k .next σ os
  |s::r,σ,k,os=>match os with
    |.s fl τ::os=>ex G Φ s σ=some (fl,τ)∧oFl fl (oSs r τ k os) (fun m=>k (.ret m) τ os)
    |os=>oS' s σ (fun fl σ os=>oFl fl (oSs r σ k os) (fun m=>k (.ret m) σ os)) os
end
end
end Mine.Internal
end
section
namespace Mine.Internal
theorem bd{α β:Type}{o:Option α}{f:α→Option β}{a:α}{r:Option β}(h:o=some a)(k:f a=r):o.bind f=r:=h▸k
theorem md{α β:Type}{o:Option α}{f:α→β}{a:α}{r:β}(h:o=some a)(k:f a=r):o.map f=some r:=h▸congrArg some k
theorem ifT{α:Type}{c:Prop}[Decidable c]{x y r:α}(h:c)(k:x=r):(if c then x else y)=r:=(if_pos h).trans k
theorem ifF{α:Type}{c:Prop}[Decidable c]{x y r:α}(h:¬c)(k:y=r):(if c then x else y)=r:=(if_neg h).trans k
theorem wi{z:Bool}{k:Bool→List Or→Prop}{os:List Or}{R:Prop}(h:yy z k os)(f:∀os',k z os'→R):R:=by
  rcases os with _|⟨o,os⟩
  · exact h.elim
  · cases o<;>first|exact h.elim|skip
    exact f os (h.1▸h.2)
theorem ql{z:Bool}{k:Bool→List Or→Prop}{p:List Or→Prop}{os:List Or}{R:Prop}(h:yz z k p os)(f:∀os',k z os'→R)(g:∀os',p os'→R):R:=by
  rcases os with _|⟨o,os⟩
  · exact h.elim
  · cases o<;>first|exact h.elim|exact f os (h.1▸h.2)|exact g os h
theorem d_{o:Option M}{k:M→List Or→Prop}{os:List Or}{R:Prop}(h:kH o k os)(f:∀x os',o=some x→k x os'→R):R:=by
  rcases os with _|⟨o,os⟩
  · exact h.elim
  · cases o<;>first|exact h.elim|skip
    exact f _ os h.1 h.2
theorem lm{x:M}{k:M→List Or→Prop}{os:List Or}{R:Prop}(h:oNn x k os)(f:∀os',k x os'→R):R:=by
  rcases os with _|⟨o,os⟩
  · exact f _ h
  · cases o<;>first|exact f _ h|exact f os (h.1▸h.2)
theorem ET{x:M}{k:M→List Or→Prop}{os:List Or}{R:Prop}(h:oG x k os)(f:∀os',k x os'→R):R:=by
  rcases os with _|⟨o,os⟩
  · exact f _ h
  · cases o<;>first|exact f _ h|exact f os (h.1▸h.2)
theorem b4{α:Type}{o:Option α}{k:α→List Or→Prop}{os:List Or}{R:Prop}(h:oo k os o)(f:∀x,o=some x→k x os→R):R:=by
  cases o with
  |none=>exact h.elim
  |some x=>exact f x rfl h
theorem bq{b:Bool}{p R:Prop}(h:onB b p)(f:b=true→p→R):R:=by
  cases b with
  |false=>exact h.elim
  |true=>exact f rfl h
theorem nh{op:COp}{x y:M}{k:Bool→List Or→Prop}{os:List Or}{R:Prop}(h:wh op x y k os)(f:∀z os',bn op x y=some z→k z os'→R):R:=by
  rcases os with _|⟨o,os⟩
  · exact b4 h fun z e h=>f z _ e h
  · cases o<;>first|exact b4 h fun z e h=>f z _ e h|exact f _ os h.1 h.2
theorem wj{m:M}{k:M→List Or→Prop}{os:List Or}{R:Prop}(h:Ca m k os)(f:∀x,m.def?=some x→k x os→R):R:=b4 h f
theorem qm{σ:List M}{k:M→List Or→Prop}{os:List Or}{o:Option M}{R:Prop}(h:yA σ k os o)(f:∀x,o=some x→x≠.undef→k x os→R):R:=by
  cases o with
  |none=>exact h.elim
  |some x=>cases x<;>first|exact h.elim|exact f _ rfl nofun h
theorem z4{x y:M}{g:Int→Int→M}{d:Prop}{k:M→Prop}{R:Prop}(h:oI2 x y g d k)(j1:d→R)(j2:∀a b,x.int?=some a→y.int?=some b→k (g a b)→R):R:=by
  unfold oI2 at h
  cases ha:x.int? with
  |none=>rw[ha]at h;exact j1 h
  |some a=>
    rw[ha]at h
    cases hb:y.int? with
    |none=>rw[hb]at h;exact j1 h
    |some b=>rw[hb]at h;exact j2 a b ha hb h
theorem Cb{op:Op}{x y:M}{k:M→List Or→Prop}{os:List Or}{R:Prop}(h:DT op x y k os)(f:∀z os',a9 op x y=some z→k z os'→R):R:=by
  cases op with
  |add=>exact z4 (show oI2 x y (fun a b=>.v (.int (a+b))) (kH (a9 .add x y) k os) (k · os)from h) (fun h=>d_ h f) fun a b ha hb h=>f _ _ (by rw[int_e ha,int_e hb];rfl) h
  |sub=>exact z4 (show oI2 x y (fun a b=>.v (.int (a-b))) (kH (a9 .sub x y) k os) (k · os)from h) (fun h=>d_ h f) fun a b ha hb h=>f _ _ (by rw[int_e ha,int_e hb];rfl) h
  |_=>exact d_ h f
theorem yF{m j:M}{k:M→List Or→Prop}{os:List Or}{R:Prop}(h:zY m j k os)(f:∀z os',item m j=some z→k z os'→R):R:=by
  cases m with
  |dct fs=>
    cases j with
    |v x=>cases x with
      |str s=>exact b4 h fun x e h=>f _ _ e h
      |_=>exact d_ h f
    |_=>exact d_ h f
  |v x=>cases x with
    |tup l=>exact b4 h fun x e h=>f _ _ e h
    |_=>exact d_ h f
  |_=>exact d_ h f
section
variable {G:Tab} {Φ:Phi}
theorem ni{c:String}{io:List Bool}{es:List E}{ms σ:List M}{k:M→List M→List Or→Prop}{os:List Or}{R:Prop}(h:r8 Φ c io es ms σ k os)(f:∀x τ os',apply Φ c io es ms σ=some (x,τ)→k x τ os'→R):R:=by
  rcases os with _|⟨o,os⟩
  · exact h.elim
  · cases o<;>first|exact h.elim|skip
    rename_i r outs
    refine bq h fun hd h=>b4 h fun as ha h=>?_
    obtain⟨hΦ,h⟩:=h
    have g:((if(lg io es ms&&!(r.indep&&io.all (!·)))=true then none else(cv io es outs σ).map fun σ'=>(r,σ'))=(cv io es outs σ).map fun σ'=>(r,σ'))∧oo (k r) os (cv io es outs σ):=by
      cases hw:lg io es ms with
      |false=>rw[hw]at h;exact⟨rfl,h⟩
      |true=>rw[hw]at h;exact⟨by rw[h.1];rfl,h.2⟩
    exact b4 g.2 fun τ hτ h=>f r τ os (ifT hd (bd ha (bd hΦ (g.1.trans (md hτ rfl))))) h
variable (G Φ)
noncomputable def OE(e:E):Prop:=∀σ k os {R:Prop},oE G Φ e σ k os→(∀x τ os',ev G Φ e σ=some (x,τ)→k x τ os'→R)→R
noncomputable def OOp(e:Option E):Prop:=∀σ k os {R:Prop},oO G Φ e σ k os→(∀x τ os',evO G Φ e σ=some (x,τ)→k x τ os'→R)→R
noncomputable def OL(l:List E):Prop:=(∀σ k os {R:Prop},oL G Φ l σ k os→(∀x τ os',evL G Φ l σ=some (x,τ)→k x τ os'→R)→R)∧
  (∀σ k os {R:Prop},oAa G Φ l σ k os→(∀x τ os',evA G Φ l σ=some (x,τ)→k x τ os'→R)→R)∧
  (∀σ k os {R:Prop},yD G Φ l σ k os→(∀x τ os',qK G Φ l σ=some (x,τ)→k x τ os'→R)→R)∧
  (∀σ k os {R:Prop},oOr G Φ l σ k os→(∀x τ os',w7 G Φ l σ=some (x,τ)→k x τ os'→R)→R)
noncomputable def OFs(l:List (String×E)):Prop:=∀σ k os {R:Prop},oF G Φ l σ k os→(∀x τ os',evF G Φ l σ=some (x,τ)→k x τ os'→R)→R
variable {G Φ}
theorem wk{σ τ:List M}{i:Nat}{m:M}(h:σ[i]?=some m)(hu:m≠.undef):(match σ[i]? with|some .undef=>none|some m=>some (m,τ)|none=>none)=some (m,τ):=by
  rw[h];cases m<;>first|rfl|exact absurd rfl hu
theorem eX{m:M}{b:Bool}(h:m.bool?=some b):ofB b=m:=by
  cases m with
  |v x=>cases x<;>first|(cases h;rfl)|cases h
  |_=>cases h
theorem yG{e:E}{r:List E}(he:OE G Φ e)(ih:OL G Φ r):OL G Φ (e::r):=
  ⟨fun _ _ _ _ h f=>he _ _ _ h fun x τ os h1 h=>bq h fun hc h=>ih.1 _ _ _ h fun y τ os h2 h=>f _ _ _ (bd h1 (ifT hc (md h2 rfl))) h,
    fun _ _ _ _ h f=>he _ _ _ h fun x τ os h1 h=>ET h fun os h=>ih.2.1 _ _ _ h fun y τ os h2 h=>f _ _ _ (bd h1 (md h2 rfl)) h,
    fun _ _ _ _ h f=>he _ _ _ h fun x τ os h1 h=>b4 h fun z h2 h=>by
      cases r with
      |nil=>exact f _ _ _ (bd h1 (bd h2 (congrArg (fun m=>some (m,τ)) (eX h2).symm))) h
      |cons e' r'=>
        refine ql h (fun os h=>?_) (fun os h=>ih.2.2.1 _ _ _ h fun y ρ os h3 ⟨e,h⟩=>b4 h fun w h4 h=>?_)
        · cases z<;>first|exact ih.2.2.1 _ _ _ h fun y τ os h3 h=>f _ _ _ (bd h1 (bd h2 h3)) h|exact f _ _ _ (bd h1 (bd h2 (congrArg (fun m=>some (m,τ)) (eX h2).symm))) h
        · subst e
          cases z<;>first|exact f _ _ _ (bd h1 (bd h2 (h3.trans (congrArg (fun m=>some (m,ρ)) (eX h4).symm)))) h|exact f _ _ _ (bd h1 (bd h2 (congrArg (fun m=>some (m,ρ)) (eX h2).symm))) h,
    fun _ _ _ _ h f=>he _ _ _ h fun x τ os h1 h=>b4 h fun z h2 h=>by
      cases r with
      |nil=>exact f _ _ _ (bd h1 (bd h2 (congrArg (fun m=>some (m,τ)) (eX h2).symm))) h
      |cons e' r'=>
        refine ql h (fun os h=>?_) (fun os h=>ih.2.2.2 _ _ _ h fun y ρ os h3 ⟨e,h⟩=>b4 h fun w h4 h=>?_)
        · cases z<;>first|exact ih.2.2.2 _ _ _ h fun y τ os h3 h=>f _ _ _ (bd h1 (bd h2 h3)) h|exact f _ _ _ (bd h1 (bd h2 (congrArg (fun m=>some (m,τ)) (eX h2).symm))) h
        · subst e
          cases z<;>first|exact f _ _ _ (bd h1 (bd h2 (h3.trans (congrArg (fun m=>some (m,ρ)) (eX h4).symm)))) h|exact f _ _ _ (bd h1 (bd h2 (congrArg (fun m=>some (m,ρ)) (eX h2).symm))) h⟩
theorem Cc:OL G Φ []:=⟨fun _ _ _ _ h f=>f _ _ _ rfl h,fun _ _ _ _ h f=>f _ _ _ rfl h,fun _ _ _ _ h _=>h.elim,fun _ _ _ _ h _=>h.elim⟩
theorem EU{e:E}(he:OE G Φ e):OOp G Φ (some e):=fun _ _ _ _ h f=>he _ _ _ h fun x τ os h1 h=>b4 h fun z h3 h=>f _ _ _ (bd h1 (md h3 rfl)) h
theorem hM(e:E):OE G Φ e:=by
  refine E.rec (motive_1:=OE G Φ) (motive_2:=fun _=>True) (motive_3:=OOp G Φ) (motive_4:=OL G Φ) (motive_5:=OFs G Φ) (motive_6:=fun p=>OE G Φ p.2) ?_ ?_ ?_ ?_ ?_ ?_ ?_ ?_ ?_ ?_ ?_ ?_ ?_ ?_ ?_ ?_ ?_ ?_ ?_ ?_ ?_ ?_ ?_ ?_ ?_ ?_ ?_ (fun _ _ _ _=>trivial) (fun _ _=>trivial) (fun _ _ _ _=>trivial) (fun _ _=>trivial) (fun _ _ _ _ h f=>f _ _ _ rfl h) (fun _ h=>EU h) Cc (fun _ _ h ih=>yG h ih) (fun _ _ _ _ h f=>f _ _ _ rfl h) (fun p r he ih=>fun _ _ _ _ h f=>he _ _ _ h fun x τ os h1 h=>bq h fun hc h=>ih _ _ _ h fun y τ os h2 h=>f _ _ _ (bd h1 (ifT hc (md h2 rfl))) h) (fun _ _ h=>h) e
  · exact fun _ _ _ _ h f=>f _ _ _ rfl h
  · intro _
    exact fun _ _ _ _ h f=>f _ _ _ rfl h
  · intro _
    exact fun _ _ _ _ h f=>f _ _ _ rfl h
  · intro _
    exact fun _ _ _ _ h f=>f _ _ _ rfl h
  · intro _
    exact fun _ _ _ _ h f=>qm h fun _ e hu h=>f _ _ _ (wk e hu) h
  · intro _
    exact fun _ _ _ _ h f=>qm h fun _ e hu h=>f _ _ _ (wk e hu) h
  · intro _
    exact fun _ _ _ _ h f=>b4 h fun _ e h=>f _ _ _ (md e rfl) h
  · intro e a je
    exact fun _ _ _ _ h f=>je _ _ _ h fun m τ os h1 h=>b4 h fun p h2 h=>by
      cases hp:G.prop p.1 a with
      |some g=>
        rw[hp]at h
        exact bq h fun hc h=>ni h fun x τ os h3 h=>wj h fun y h4 h=>f _ _ _ (bd h1 (bd h2 (by
          show(match G.prop p.1 a with|some k=>_|Option.none=>_)=_
          rw[hp];exact ifT hc (bd h3 (md h4 rfl))))) h
      |none=>
        rw[hp]at h
        exact b4 h fun x h3 h=>wj h fun y h4 h=>f _ _ _ (bd h1 (bd h2 (by
          show(match G.prop p.1 a with|some k=>_|Option.none=>_)=_
          rw[hp];exact bd h3 (md h4 rfl)))) h
  · intro e i je ji
    exact fun _ _ _ _ h f=>je _ _ _ h fun m τ os h1 h=>bq h fun hc h=>ji _ _ _ h fun j τ os h2 h=>yF h fun z os h3 h=>f _ _ _ (by
      by_cases hi:i.calm G.io=true
      · exact ifT hi (bd h1 (bd h2 (md h3 rfl)))
      · exact ifF hi (bd h1 (ifT ((Bool.or_eq_true_iff.mp hc).resolve_left hi) (bd h2 (md h3 rfl))))) h
  · intro e lo hi je jlo jhi
    exact fun _ _ _ _ h f=>bq h fun hc h=>je _ _ _ h fun m τ os h1 h=>b4 h fun l h2 h=>jlo _ _ _ h fun a τ os h3 h=>jhi _ _ _ h fun b τ os h4 h=>f _ _ _ (ifT hc (bd h1 (bd h2 (bd h3 (md h4 rfl))))) h
  · intro op a b ja jb
    exact fun _ _ _ _ h f=>ja _ _ _ h fun x τ os h1 h=>bq h fun hc h=>jb _ _ _ h fun y τ os h2 h=>Cb h fun z os h3 h=>f _ _ _ (bd h1 (ifT hc (bd h2 (md h3 rfl)))) h
  · intro a ja
    exact fun _ _ _ _ h f=>ja _ _ _ h fun x τ os h1 h=>b4 h fun i h2 h=>f _ _ _ (bd h1 (md h2 rfl)) h
  · intro a ja
    exact fun _ _ _ _ h f=>ja _ _ _ h fun x τ os h1 h=>b4 h fun i h2 h=>f _ _ _ (bd h1 (md h2 rfl)) h
  · intro op a b ja jb
    exact fun _ _ _ _ h f=>ja _ _ _ h fun x τ os h1 h=>bq h fun hc h=>jb _ _ _ h fun y τ os h2 h=>nh h fun z os h3 h=>f _ _ _ (bd h1 (ifT hc (bd h2 (md h3 rfl)))) h
  · intro o1 o2 a b c ja jb jc
    exact fun _ _ _ _ h f=>bq h fun hc h=>ja _ _ _ h fun x τ os h1 h=>jb _ _ _ h fun y τ os h2 h=>nh h fun z os h3 h=>ql h (fun os h=>by
      cases z with
      |true=>exact jc _ _ _ h fun u τ os h4 h=>nh h fun w os h5 h=>f _ _ _ (ifT hc (bd h1 (bd h2 (bd h3 (bd h4 (md h5 rfl)))))) h
      |false=>exact f _ _ _ (ifT hc (bd h1 (bd h2 (bd h3 rfl)))) h) fun os h=>jc _ _ _ h fun u ρ os h4 ⟨e,h⟩=>nh h fun w os h5 h=>by
      subst e
      cases z with
      |true=>exact f _ _ _ (ifT hc (bd h1 (bd h2 (bd h3 (bd h4 (md h5 rfl)))))) h
      |false=>exact f _ _ _ (ifT hc (bd h1 (bd h2 (bd h3 rfl)))) h
  · intro l jl
    exact fun _ _ _ _ h f=>jl.2.2.1 _ _ _ h f
  · intro l jl
    exact fun _ _ _ _ h f=>jl.2.2.2 _ _ _ h f
  · intro c a b jc ja jb
    exact fun _ _ _ _ h f=>jc _ _ _ h fun x τ os h1 h=>b4 h fun z h3 h=>wi h fun os h=>by
      cases z with
      |true=>exact ja _ _ _ h fun u τ os h4 h=>f _ _ _ (bd h1 (bd h3 h4)) h
      |false=>exact jb _ _ _ h fun u τ os h4 h=>f _ _ _ (bd h1 (bd h3 h4)) h
  · intro e je
    exact fun _ _ _ _ h f=>je _ _ _ h fun x τ os h1 h=>bq h fun hc h=>b4 h fun z h3 h=>f _ _ _ (bd h1 (ifT hc (md h3 rfl))) h
  · intro l jl
    exact fun _ _ _ _ h f=>jl.1 _ _ _ h fun ms τ os h1 h=>f _ _ _ (md h1 rfl) h
  · intro l jl
    exact fun _ _ _ _ h f=>jl.1 _ _ _ h fun ms τ os h1 h=>f _ _ _ (md h1 rfl) h
  · intro l jl
    exact fun _ _ _ _ h f=>jl _ _ _ h fun ms τ os h1 h=>f _ _ _ (md h1 rfl) h
  · intro g l jl
    exact fun _ _ _ _ h f=>bq h fun hc h=>jl.2.1 _ _ _ h fun ms τ os h1 h=>ni h fun x τ os h2 h=>f _ _ _ (ifT hc (bd h1 h2)) h
  · intro g l jl
    exact fun _ _ _ _ h f=>bq h fun hc h=>jl.2.1 _ _ _ h fun ms τ os h1 h=>b4 h fun x h2 h=>f _ _ _ (ifT hc (bd h1 (md ((yC _ _).symm.trans h2) rfl))) h
  · intro e c m g l je jl
    exact fun _ _ _ _ h f=>bq h fun hc h=>je _ _ _ h fun o τ os h1 h=>jl.2.1 _ _ _ h fun ms τ os h2 h=>b4 h fun p h3 h=>bq h fun h4 h=>by
      cases hl:p.2.lookup m with
      |some y=>rw[hl]at h;exact h.elim
      |none=>
        rw[hl]at h
        exact ni h fun x τ os h5 h=>f _ _ _ (ifT hc (bd h1 (bd h2 (bd h3 (ifT (of_decide_eq_true h4) (by
          show(match p.2.lookup m with|some _=>_|Option.none=>_)=_
          rw[hl];exact h5)))))) h
  · intro c g l jl
    exact fun _ _ os _ h f=>bq h fun hc h=>jl.2.1 _ _ _ h fun ms τ os h1 h=>bq h fun h2 h=>by
      rcases os with _|⟨_|_|_|_|_|_|_|⟨r,_|⟨o,q⟩⟩|_,os⟩<;>first|exact h.elim|skip
      obtain⟨rfl,h3,h⟩:=h
      exact f _ _ _ (ifT hc (bd h1 (ifT h2 (bd h3 rfl)))) h
  · intro x p s c jx js jc
    exact fun _ _ os _ h f=>by
      rcases os with _|⟨_|_|_|_|_|_|_|_|_,os⟩<;>first|exact h.elim|skip
      exact f _ _ _ h.1 h.2
end
end Mine.Internal
end
section
namespace Mine.Internal
section
variable {G:Tab} {Φ:Phi}
noncomputable def iN(f:M→Option M)(F:Fu):Prop:=∀m k os {R:Prop},F m k os→(∀y os',f m=some y→k y os'→R)→R
theorem z5{a:String}{f:M→Option M}{F:Fu}(H:iN f F){fs:List (String×M)}:∀{k:List (String×M)→List Or→Prop} {os:List Or} {R:Prop},oUF a F fs k os→(∀y os',gE a f fs=some y→k y os'→R)→R:=by
  induction fs with
  |nil=>intro k os R h _;exact h.elim
  |cons p r ih=>
    intro k os R h g
    by_cases e:p.1=a
    · have h:F p.2 (fun y os=>k ((p.1,y)::r) os) os:=by have h2:(match decide (p.1=a)with|true=>F p.2 (fun y os=>k ((p.1,y)::r) os) os|false=>oUF a F r (fun q os=>k ((p.1,p.2)::q) os) os):=h;rw[decide_eq_true e]at h2;exact h2
      exact H _ _ _ h fun y os h1 h=>g _ _ (ifT e (md h1 rfl)) h
    · have h:oUF a F r (fun q os=>k (p::q) os) os:=by have h2:(match decide (p.1=a)with|true=>F p.2 (fun y os=>k ((p.1,y)::r) os) os|false=>oUF a F r (fun q os=>k ((p.1,p.2)::q) os) os):=h;rw[decide_eq_false e]at h2;exact h2
      exact ih h fun y os h1 h=>g _ _ (ifF e (md h1 rfl)) h
theorem D0{a c g:String}{f:M→Option M}{F:Fu}{fs:List (String×M)}{k:M→List Or→Prop}{os:List Or}(e:G.prop c a=some g):¬yE G a F (.obj c fs) k os:=fun h=>by
  have h:(match G.prop c a with|Option.none=>oUF a F fs (fun fs os=>k (.obj c fs) os) os|some _=>False):=h
  rw[e]at h;exact h
theorem D1{a c:String}{f:M→Option M}{F:Fu}{fs:List (String×M)}{k:M→List Or→Prop}{os:List Or}(e:G.prop c a=none)(h:yE G a F (.obj c fs) k os):oUF a F fs (fun fs os=>k (.obj c fs) os) os:=by
  have h:(match G.prop c a with|Option.none=>oUF a F fs (fun fs os=>k (.obj c fs) os) os|some _=>False):=h
  rw[e]at h;exact h
theorem D2{a c:String}{f:M→Option M}{fs q:List (String×M)}(e:G.prop c a=none)(h:gE a f fs=some q):f_ G a f (.obj c fs)=some (.obj c q):=by
  show(match G.prop c a with|Option.none=>(gE a f fs).map (M.obj c)|some _=>Option.none)=_
  rw[e];exact md h rfl
theorem iN.inA{a:String}{f:M→Option M}{F:Fu}(H:iN f F):iN (f_ G a f) (yE G a F):=fun m k os R h g=>by
  cases m<;>first|exact h.elim|skip
  rename_i c fs
  rcases e:G.prop c a with _|_
  · exact z5 H (D1 (f:=f) e h) fun y os h1 h=>g _ _ (D2 e h1) h
  · exact(D0 (f:=f) e h).elim
theorem iN.inI{j:M}{f:M→Option M}{F:Fu}(H:iN f F):iN (dv j f) (DW j f F):=fun m k os R h g=>by
  cases m<;>first|exact d_ h g|skip
  cases j<;>first|exact h.elim|skip
  rename_i x
  cases x<;>first|exact h.elim|skip
  exact z5 H h fun y os h1 h=>g _ _ (md h1 rfl) h
theorem yH{f:M→Option M}{σ:List M}{i:Nat}{m y:M}(h:σ[i]?=some m)(hu:m≠.undef)(hy:f m=some y):bD G Φ (.var i) f σ=some (σ.set i y):=by
  show(match σ[i]? with|some .undef=>none|some m=>(f m).map fun m'=>σ.set i m'|none=>none)=_
  rw[h];cases m<;>first|exact absurd rfl hu|exact md hy rfl
noncomputable def OU(G:Tab)(Φ:Phi)(p:E):Prop:=∀{f:M→Option M} {F:Fu} {σ:List M} {k:List M→List Or→Prop} {os:List Or} {R:Prop},iN f F→oU G Φ p f F σ k os→(∀τ os',bD G Φ p f σ=some τ→k τ os'→R)→R
theorem D3{p:E}(hp:∀f F σ k os,oU G Φ p f F σ k os=False):OU G Φ p:=fun{f F σ k os R} _ h _=>(hp f F σ k os▸h:False).elim
theorem oK(p:E):OU G Φ p:=by
  refine E.rec (motive_1:=OU G Φ) (motive_2:=fun _=>True) (motive_3:=fun _=>True) (motive_4:=fun _=>True) (motive_5:=fun _=>True) (motive_6:=fun _=>True) ?_ ?_ ?_ ?_ (fun i {f F σ k os R} H h g=>qm h fun m h1 hu h=>H _ _ _ h fun y os h2 h=>g _ _ (yH h1 hu h2) h) ?_ ?_ (fun p a ih {f F σ k os R} H h g=>ih H.inA h g) (fun p i ih _ {f F σ k os R} H h g=>bq h fun hc h=>hM i _ _ _ h fun j τ os h1 h=>ih H.inI h fun τ os h2 h=>g _ _ (ifT hc (bd h1 h2)) h) ?_ ?_ ?_ ?_ ?_ ?_ ?_ ?_ ?_ ?_ ?_ ?_ ?_ ?_ ?_ ?_ ?_ ?_ ?_ ?_ ?_ ?_ ?_ ?_ ?_ ?_ ?_ ?_ ?_ p
  all_goals first|(intros;exact trivial)|(intros;exact D3 fun _ _ _ _ _=>rfl)
theorem wl(f:M→Option M):iN f (oOf f):=fun _ _ _ _ h g=>b4 h fun y h1 h=>g _ _ h1 h
theorem Cd(f:M→Option M):iN f (DZ f):=fun x _ _ _ h g=>by
  cases x<;>first|exact d_ h g|exact b4 h fun y h1 h=>g _ _ h1 h
theorem yI(keep:Bool)(m:M):iN (if keep then fF m else jI m) (zZ keep m):=fun x k os R h g=>by
  cases keep<;>cases x<;>first|exact h.elim|skip
  · rename_i l
    exact b4 (o:=m.toV) (k:=fun v os=>(l++[v]).length≤big∧oNn (.lst (l++[v])) k os) h fun v h1 h=>lm h.2 fun os h'=>g _ _ (bd h1 (md (ifT h.1 rfl) rfl)) h'
  · exact lm h.2 fun os h'=>g _ _ (ifT h.1 rfl) h'
  · exact lm h.2 fun os h'=>g _ _ (ifT h.1 rfl) h'
theorem Ce(m:M):iN (pA m) (DX m):=fun x k os R h g=>by
  cases x<;>first|exact h.elim|skip
  rename_i l
  exact b4 (o:=m.list?) (k:=fun v os=>(l++v).length≤big∧oNn (.lst (l++v)) k os) h fun v h1 h=>lm h.2 fun os h'=>g _ _ (bd h1 (md (ifT h.1 rfl) rfl)) h'
theorem wm:iN sA DY:=fun x k os R h g=>by
  cases x<;>first|exact h.elim|skip
  exact lm h.2 fun os h'=>g _ _ (ifF (by rw[h.1];exact Bool.false_ne_true) rfl) h'
noncomputable def OT(G:Tab)(Φ:Phi)(t:T):Prop:=∀{m:M} {σ:List M} {k:List M→List Or→Prop} {os:List Or} {R:Prop},oT G Φ t m σ k os→(∀τ os',store G Φ t m σ=some τ→k τ os'→R)→R
noncomputable def OTs(G:Tab)(Φ:Phi)(l:List T):Prop:=∀{ms σ:List M} {k:List M→List Or→Prop} {os:List Or} {R:Prop},oTs G Φ l ms σ k os→(∀τ os',stores G Φ l ms σ=some τ→k τ os'→R)→R
theorem EV(t:T):OT G Φ t:=by
  refine T.rec (motive_1:=OT G Φ) (motive_2:=OTs G Φ) (fun i keep {m σ k os R} h g=>bq h fun hi h=>?_) (fun l ih {m σ k os R} h g=>b4 h fun ms h1 h=>ih h fun τ os h2 h=>g _ _ (bd h1 h2) h) (fun o _ {m σ k os R} h g=>lm h fun os h=>oK o (wl _) h g) (fun o i {m σ k os R} h g=>bq h fun hc h=>hM i _ _ _ h fun j τ os h1 h=>lm h fun os h=>oK o (Cd _) h fun τ os h2 h=>g _ _ (ifT hc (bd h1 h2)) h) (fun{ms σ k os R} h g=>?_) (fun t r ht ih {ms σ k os R} h g=>?_) t
  · cases keep with
    |true=>exact lm h fun os h=>g _ _ (ifT (of_decide_eq_true hi) rfl) h
    |false=>exact b4 h fun x h1 h=>lm h fun os h=>g _ _ (ifT (of_decide_eq_true hi) (md h1 rfl)) h
  · cases ms with
    |nil=>exact g _ _ rfl h
    |cons m ms=>exact h.elim
  · cases ms with
    |nil=>exact h.elim
    |cons m ms=>exact ht h fun τ os h1 h=>ih h fun τ os h2 h=>g _ _ (bd h1 h2) h
noncomputable def OS(G:Tab)(Φ:Phi)(s:S):Prop:=∀{σ:List M} {k:Fl→List M→List Or→Prop} {os:List Or} {R:Prop},oS' G Φ s σ k os→(∀f τ os',ex G Φ s σ=some (f,τ)→k f τ os'→R)→R
noncomputable def OSs(G:Tab)(Φ:Phi)(l:List S):Prop:=∀{σ:List M} {k:Fl→List M→List Or→Prop} {os:List Or} {R:Prop},oSs G Φ l σ k os→(∀f τ os',exs G Φ l σ=some (f,τ)→k f τ os'→R)→R
theorem yJ:OS G Φ (.ret none):=fun h g=>g _ _ _ rfl h
theorem Cf(e:E):OS G Φ (.ret (some e)):=fun h g=>hM e _ _ _ h fun m τ os h1 h=>bq h fun hc h=>lm h fun os h=>g _ _ _ (bd h1 (ifT hc rfl)) h
theorem D4(e:Option E):OS G Φ (.ret e):=by
  cases e with
  |none=>exact yJ
  |some e=>exact Cf e
theorem D5{s:S}{r:List S}(hs:OS G Φ s)(ih:OSs G Φ r):OSs G Φ (s::r):=fun{σ k os R} h g=>by
  have one:∀{f τ os},ex G Φ s σ=some (f,τ)→oFl f (oSs G Φ r τ k os) (fun m=>k (.ret m) τ os)→R:=fun{f τ os} h1 h=>by
    cases f with
    |next=>exact ih h fun f τ os h2 h=>g _ _ _ (bd h1 h2) h
    |ret m=>exact g _ _ _ (bd h1 rfl) h
  cases os with
  |nil=>exact hs h fun f τ os h1 h=>one h1 h
  |cons o os=>cases o with
    |s f τ=>exact one h.1 h.2
    |_=>exact hs h fun f τ os h1 h=>one h1 h
theorem wn(t:T)(e:E):OS G Φ (.asg t e):=fun h g=>hM e _ _ _ h fun m τ os h1 h=>bq h fun hc h=>EV t h fun τ os h2 h=>g _ _ _ (bd h1 (ifT hc (md h2 rfl))) h
theorem r_(e:E):OS G Φ (.expr e):=fun h g=>hM e _ _ _ h fun m τ os h1 h=>g _ _ _ (md h1 rfl) h
theorem wo(p e:E)(keep:Bool):OS G Φ (.app p e keep):=fun h g=>bq h fun hk h=>hM e _ _ _ h fun m τ os h1 h=>bq h fun hc h=>oK p (yI keep m) h fun τ os h2 h=>g _ _ _ (bd h1 (ifT hc (ifT hk (md h2 rfl)))) h
theorem wp(p e:E):OS G Φ (.ext p e):=fun h g=>bq h fun hk h=>hM e _ _ _ h fun m τ os h1 h=>oK p (Ce m) h fun τ os h2 h=>g _ _ _ (ifT hk (bd h1 (md h2 rfl))) h
theorem wq(c:E){a b:List S}(ha:OSs G Φ a)(hb:OSs G Φ b):OS G Φ (.ite c a b):=fun h g=>hM c _ _ _ h fun m τ os h1 h=>b4 h fun z h2 h=>wi h fun os h=>by
  cases z with
  |true=>exact ha h fun f τ os h3 h=>g _ _ _ (bd h1 (bd h2 h3)) h
  |false=>exact hb h fun f τ os h3 h=>g _ _ _ (bd h1 (bd h2 h3)) h
theorem sa(l:List S):OSs G Φ l:=S.rec_1 (motive_1:=OS G Φ) (motive_2:=OSs G Φ) wn r_ wo wp (fun p {σ k os R} h g=>oK p wm h fun τ os h2 h=>g _ _ _ (md h2 rfl) h) (fun c a b ha hb=>wq c ha hb) (fun _ _ _ {σ k os R} h _=>h.elim) (fun _ _ _ _ {σ k os R} h _=>h.elim) D4 (fun p {σ k os R} h g=>oK p (wl _) h fun τ os h2 h=>g _ _ _ (md h2 rfl) h) (fun{σ k os R} h g=>g _ _ _ rfl h) (fun _ _ hs ih=>D5 hs ih) l
theorem EW(s:S):OS G Φ s:=by
  cases s with
  |asg t e=>exact wn t e
  |expr e=>exact r_ e
  |app p e keep=>exact wo p e keep
  |ext p e=>exact wp p e
  |pop p=>exact fun h g=>oK p wm h fun τ os h2 h=>g _ _ _ (md h2 rfl) h
  |ite c a b=>exact wq c (sa a) (sa b)
  |ret e=>exact D4 e
  |frz p=>exact fun h g=>oK p (wl _) h fun τ os h2 h=>g _ _ _ (md h2 rfl) h
  |_=>exact fun h _=>h.elim
theorem ora{l:List S}{σ τ:List M}{f:Fl}(os:List Or)(h:oSs G Φ l σ (fun f' τ' _=>f'=f∧τ'=τ) os):exs G Φ l σ=some (f,τ):=
  sa l h fun _ _ _ e h=>h.1▸h.2▸e
theorem aI{s:S}{σ τ:List M}{f:Fl}(os:List Or)(h:oS' G Φ s σ (fun f' τ' _=>f'=f∧τ'=τ) os):ex G Φ s σ=some (f,τ):=
  EW s h fun _ _ _ e h=>h.1▸h.2▸e
theorem aM{e:E}{σ τ:List M}{m:M}(os:List Or)(h:oE G Φ e σ (fun m' τ' _=>m'=m∧τ'=τ) os):ev G Φ e σ=some (m,τ):=
  hM e _ _ _ h fun _ _ _ e h=>h.1▸h.2▸e
noncomputable def flR:Fl→M
  |.next=>.v .none
  |.ret m=>m
theorem aD{d:Nat}{k:String}{fn:Fn}{as outs:List M}{r:M}(hf:fnT k=some fn)(hl:as.length=fn.np)(os:List Or)(h:oSs GT (Ph d) fn.body (as++List.replicate (fn.vs.length-fn.np) .undef) (fun f' τ' _=>flR f'=r∧τ'.take fn.np=outs) os):Ph (d+1) k as=some (r,outs):=
  bd (f:=fun f=>nL GT (Ph d) f as) hf (ifT hl (sa fn.body h fun f τ _ e h=>md e (by
    rw[←h.1,←h.2];cases f<;>rfl)))
theorem vi{a b:Int}(h:a=b):M.v (.int a)=.v (.int b):=h▸rfl
theorem vb{a b:Bool}(h:a=b):M.v (.bool a)=.v (.bool b):=h▸rfl
theorem ml{a b:List V}(h:a=b):M.lst a=.lst b:=h▸rfl
theorem oQ{f:M→List M→Option (Fl×List M)}:∀(xs:List M) {I:Nat→List M→Prop},(∀k (h:k<xs.length) τ,I k τ→∃τ',f xs[k] τ=some (.next,τ')∧I (k+1) τ')→∀{σ},I 0 σ→∃τ,cw f xs σ=some (.next,τ)∧I xs.length τ
  |[],_,_,_,h0=>⟨_,rfl,h0⟩
  |x::r,I,st,σ,h0=>by
    obtain⟨σ₁,e,h1⟩:=st 0 (Nat.zero_lt_succ _) σ h0
    obtain⟨τ,e2,h2⟩:=oQ r (I:=fun k=>I (k+1)) (fun k h=>st (k+1) (Nat.succ_lt_succ h)) h1
    refine⟨τ,?_,h2⟩
    rw[cM]
    exact bd e e2
theorem fj{p:P}{s:Src}{b:List S}{σ σ₀:List M}{xs:List M}(I:Nat→List M→Prop)(hs:evS G Φ true s σ=some (xs,σ₀))(h0:I 0 σ₀)
    (st:∀k (h:k<xs.length) τ,I k τ→∃τ₁ τ',iY p xs[k] τ=some τ₁∧exs G Φ b τ₁=some (.next,τ')∧I (k+1) τ'):∃τ,ex G Φ (.for_ p s b) σ=some (.next,τ)∧I xs.length τ:=by
  obtain⟨τ,h,hi⟩:=oQ (f:=fun x σ=>(iY p x σ).bind fun σ=>exs G Φ b σ) xs (I:=I) (fun k h τ hi=>by
    obtain⟨τ₁,τ',h1,h2,h3⟩:=st k h τ hi
    exact⟨τ',bd h1 h2,h3⟩) h0
  exact⟨τ,bd hs h,hi⟩
theorem dn(a b:Nat):decide ((a:Int)=(b:Int))=decide (a=b):=decide_eq_decide.mpr Int.ofNat_inj
theorem dle(a b:Nat):decide ((a:Int)≤(b:Int))=decide (a≤b):=decide_eq_decide.mpr Int.ofNat_le
theorem dlt(a b:Nat):decide ((a:Int)<(b:Int))=decide (a<b):=decide_eq_decide.mpr Int.ofNat_lt
theorem dps(a:Nat):decide ((0:Int)<(a:Int))=decide (0<a):=dlt 0 a
theorem dT{p:Prop}[Decidable p](h:p):decide p=true:=decide_eq_true h
theorem dF{p:Prop}[Decidable p](h:¬p):decide p=false:=decide_eq_false h
theorem a2{a b:Prop}(x:a)(y:b):a∧b:=⟨x,y⟩
end
end Mine.Internal
end
section
set_option genInjectivity true
namespace Mine.Internal
@[simp] theorem v_v(x:V):M.isV (.v x)=true:=rfl
@[simp] theorem E2(l:List V):M.isV (.lst l)=false:=rfl
@[simp] theorem V_v(x:V):M.toV (.v x)=some x:=rfl
@[simp] theorem l_v(l:List V):M.list? (.v (.lst l))=some l:=rfl
@[simp] theorem l_l(l:List V):M.list? (.lst l)=some l:=rfl
@[simp] theorem s_l(l:List V):M.seq? (.lst l)=some (l.map .v):=rfl
@[simp] theorem EX(l:List M):M.seq? (.lstM l)=some l:=rfl
@[simp] theorem Cg(x:V)(r:List M):a5 (.v x::r)=(a5 r).map (x:: ·):=rfl
@[simp] theorem l_(l:List V):a5 (l.map .v)=some l:=by
  induction l with
  |nil=>rfl
  |cons x r ih=>rw[List.map_cons,Cg,ih];rfl
@[simp] theorem gq(l:List V):bF (l.map .v)=.lst l:=by unfold bF;rw[l_]
theorem Ch(m:M):dG m=m.toV.map .v:=rfl
theorem kI(o:M)(i:Int):item o (.v (.int i))=o.seq?.bind fun l=>(ix i l.length).bind fun j=>l[j]?:=rfl
theorem wt{i:Int}{n:Nat}(h0:0≤i)(h:i<n):ix i n=some i.toNat:=by unfold ix;rw[if_pos h0,if_pos h]
theorem hV{n:Nat}(h:0<n):ix (-1) n=some (n-1):=by
  unfold ix
  rw[if_neg (by(simp)),if_pos (by lia)]
  congr 1;(exact ze (by trivial))
section
variable (io:String→List Bool)
@[simp] theorem can(l:List E):E.calm io (.and l)=E.calms io l:=rfl
end
noncomputable def fin(np:Nat)(q:Option (Fl×List M)):Option (M×List M):=q.map fun p=>((match p.1 with|.next=>.v .none|.ret m=>m),p.2.take np)
@[simp] theorem wu(np:Nat)(σ:List M):fin np (some (.next,σ))=some (.v .none,σ.take np):=rfl
@[simp] theorem sb(np:Nat)(m:M)(σ:List M):fin np (some (.ret m,σ))=some (m,σ.take np):=rfl
theorem wv(G:Tab)(Φ:Phi)(f:Fn)(as:List M):nL G Φ f as=if as.length=f.np then fin f.np (exs G Φ f.body (as++List.replicate (f.vs.length-f.np) .undef))else none:=rfl
theorem nj{d:Nat}{k:String}{as:List M}{f:Fn}(hk:fnT k=some f)(hl:as.length=f.np):Ph (d+1) k as=fin f.np (exs GT (Ph d) f.body (as++List.replicate (f.vs.length-f.np) .undef)):=by
  rw[yx,hk,Option.bind_some,wv,if_pos hl]
theorem hY{l m:List V}(h:bG l=some m):l.length≤big∧l=m:=by
  unfold bG at h
  split at h
  · exact⟨‹_›,Option.some.inj h⟩
  · cases h
theorem jA{G:Tab}{Φ:Phi}{i j:Nat}{σ σ₁ σ₂ τ:List M}{m:M}(he:ev G Φ (.mov j) σ=some (m,σ₁))(h0:bD G Φ (.var i) nK σ=some τ)(h1:bD G Φ (.var i) (fF m) σ₁=some σ₂):ex G Φ (.app (.var i) (.mov j) true) σ=some (.next,σ₂):=
  bd he (ifT rfl (ifF Bool.false_ne_true (ifT (by rw[h0];rfl) (md h1 rfl))))
theorem ci{G:Tab}{Φ:Phi}{c:E}{b:List S}{σ σ₁ σ':List M}(hc:ev G Φ c σ=some (.v (.bool true),σ₁))(hb:exs G Φ b σ₁=some (.next,σ')):cJ G Φ c b σ=some (.inl σ'):=by
  unfold cJ
  rw[hc,Option.bind_some]
  show Option.map _ (exs G Φ b σ₁)=_
  rw[hb]
  rfl
theorem aJ{G:Tab}{Φ:Phi}{c:E}{b:List S}{σ σ₁:List M}(hc:ev G Φ c σ=some (.v (.bool false),σ₁)):cJ G Φ c b σ=some (.inr (.next,σ₁)):=by
  unfold cJ
  rw[hc,Option.bind_some]
  rfl
end Mine.Internal
end
section
set_option genInjectivity true
namespace Mine.Internal
structure Pen where
  a:Int
  b:Int
  c:Int
  d:Int
  e:Int
structure Cell where
  t:List Int
  w:Int
  p:Pen
  g:Bool
noncomputable def Pen.v(p:Pen):V:=.tup [.int p.a,.int p.b,.int p.c,.int p.d,.int p.e]
noncomputable def Cell.v(c:Cell):V:=.tup [.tup (c.t.map .int),.int c.w,c.p.v,.bool c.g]
noncomputable def bN:Pen:=⟨0,-1,-1,-1,0⟩
noncomputable def bj(p:Pen):Cell:=⟨[],1,⟨0,-1,p.c,-1,0⟩,false⟩
noncomputable def ao:Cell:=bj bN
noncomputable def enc(l:List Cell):List V:=l.map Cell.v
@[simp] theorem EE:enc []=[]:=rfl
theorem eY(c:Cell)(r:List Cell):enc (c::r)=c.v::enc r:=rfl
@[simp] theorem ab(l:List Cell):(enc l).length=l.length:=by simp[enc]
theorem aN(a b:List Cell):enc (a++b)=enc a++enc b:=by simp[enc]
theorem hZ(a:List Cell)(n:Nat):enc (a.take n)=(enc a).take n:=by simp[enc]
theorem yK(a:List Cell)(n:Nat):(enc a)[n]?=(a[n]?).map Cell.v:=by simp[enc]
theorem jB(n:Nat)(c:Cell):enc (List.replicate n c)=List.replicate n c.v:=by simp[enc]
noncomputable def Cell.plain(c:Cell):Bool:=V.eq c.v ao.v
theorem ww:bN.v=bK:=rfl
theorem cP(d:Nat)(p:Pen):Ph (d+2) "blank_cell" [.v p.v]=some (.v (bj p).v,[.v p.v]):=rfl
theorem ea(d:Nat)(p:Pen):Ph (d+1) "_law_bare" [.v p.v]=some (.v (bj p).v,[.v p.v]):=rfl
theorem gr:∀(l:List Int) (n:Nat),V.plains (l.map .int) n=true
  |[],_=>rfl
  |_::r,n=>gr r n
theorem Cell.plain_v(c:Cell)(n:Nat)(h:2≤n):c.v.plain n=true:=by
  obtain⟨k,rfl⟩:∃k,n=k+2:=⟨n-2,by(simp[*])⟩
  show(V.plains (c.t.map .int) k&&true)=true
  rw[gr];rfl
theorem nl{x y:V}(hx:x.plain 16=true)(hy:y.plain 16=true):bn .eq (.v x) (.v y)=some (x.eq y):=if_pos (by rw[hx,hy];rfl)
theorem ma(c:Cell):bn .eq (.v c.v) (.v (.tup [.tup [],.int 1,bK,.bool false]))=some c.plain:=
  nl (c.plain_v 16 (by decide)) (ao.plain_v 16 (by decide))
theorem iO(d:Nat)(c:Cell):Ph (d+1) "is_plain_blank" [.v c.v]=some (.v (.bool c.plain),[.v c.v]):=by
  exact aD gZ rfl [.d _] (a2 (ma c) (a2 rfl rfl):)
noncomputable def Cell.blank?(c:Cell):Bool:=c.t.isEmpty&&decide (c.w=1)
theorem z6(c:Cell):bn .eq (.v (.tup (c.t.map .int))) (.v (.tup []))=some c.t.isEmpty:=by
  rw[nl (show(V.tup _).plain 16=true from gr _ _) rfl]
  cases c.t<;>simp[qL,qM,qN,qO,qP,gb,gc,gf]
theorem qn(d:Nat)(c:Cell):Ph (d+1) "is_blank" [.v c.v]=some (.v (.bool c.blank?),[.v c.v]):=by
  have h:=z6 c
  unfold Cell.blank?
  cases hq:c.t.isEmpty with
  |true=>rw[hq]at h;exact aD i9 rfl [.d _,.b true] (a2 h (a2 rfl (a2 rfl rfl)):)
  |false=>rw[hq]at h;exact aD i9 rfl [.d _,.b false] (a2 h (a2 rfl (a2 rfl rfl)):)
theorem tq(n:Nat)(x:V):(List.replicate n [x]).flatten=List.replicate n x:=by
  induction n with
  |zero=>rfl
  |succ n ih=>rw[List.replicate_succ,List.flatten_cons,ih];rfl
theorem jC(x:V)(n:Int)(h:n≤1000)(h0:-1000≤n):a9 .mul (.lst [x]) (.v (.int n))=some (.lst (List.replicate n.toNat x)):=by
  show(if _ then _ else _)=_
  rw[if_pos ⟨by simp[big];lia,by(exact Nat.lt_succ_of_le (by first|assumption|omega))⟩,tq]
theorem dz(d:Nat)(n:Int)(p:Pen)(h:n≤1000)(h0:-1000≤n):Ph (d+3) "line_blanks" [.v (.int n),.v p.v]=some (.lst (enc (List.replicate n.toNat (bj p))),[.v (.int n),.v p.v]):=by
  have hm:a9 .mul (.lst [(bj p).v]) (.v (.int (max 0 n)))=some (.lst (enc (List.replicate n.toNat (bj p)))):=by
    rw[jC _ _ (by omega) (by lia),show(max 0 n).toNat=n.toNat by(exact CZ)]
    simp[enc]
  exact aD kD rfl [.c _ _,.m _] (a2 (cP d p) (a2 hm (a2 rfl rfl)):)
end Mine.Internal
end
section
set_option genInjectivity true
namespace Mine.Internal
@[simp] theorem bf(x:List V)(k:M):item (.v (.lst x)) k=item (.lst x) k:=by
  cases k with
  |v y=>cases y<;>rfl
  |_=>rfl
theorem cq{l:List V}{i:Int}{x:V}(h:0≤i)(hx:l[i.toNat]?=some x):item (.lst l) (.v (.int i))=some (.v x):=by
  have hl:i.toNat<l.length:=by
    rcases Nat.lt_or_ge i.toNat l.length with q|q
    · exact q
    · rw[List.getElem?_eq_none q]at hx;cases hx
  simp only[kI,s_l,Option.bind_some,List.length_map]
  rw[wt h (by lia),Option.bind_some,List.getElem?_map,hx];rfl
theorem dW{l:List V}{x:V}:item (.lst (l++[x])) (.v (.int (-1)))=some (.v x):=by
  simp only[kI,s_l,Option.bind_some,List.length_map]
  rw[hV (by simp),Option.bind_some]
  simp
theorem b5{l:List Cell}{i:Int}{x:Cell}(h:0≤i)(hx:l[i.toNat]?=some x):item (.lst (enc l)) (.v (.int i))=some (.v x.v):=cq h (by rw[yK,hx];rfl)
theorem fk{l:List Cell}{x:Cell}:item (.lst (enc (l++[x]))) (.v (.int (-1)))=some (.v x.v):=by
  rw[aN];exact dW
theorem fo:∀(l:List Cell) (n:Nat),2≤n→V.plains (enc l) n=true
  |[],_,_=>rfl
  |c::r,n,h=>by
    show(c.v.plain n&&V.plains (enc r) n)=true
    rw[c.plain_v n h];exact fo r n h
theorem plain_lst{l:List Cell}:(V.lst (enc l)).plain 16=true:=fo l 15 (by decide)
theorem kJ(l:List Cell):bn .ne (.lst (enc l)) (.lst [])=some (!l.isEmpty):=by
  have e:(V.lst []).plain 16=true:=rfl
  refine(if_pos (by rw[plain_lst,e];rfl)).trans ?_
  cases l<;>rfl
@[simp] theorem D6(l:List V)(i:Int)(m:M):lh (.v (.int i)) m (.lst l)=(ix i l.length).bind fun j=>m.toV.map fun x=>.lst (l.set j x):=rfl
noncomputable def aZ(l:List Cell):List Cell:=match l.getLast? with
  |some c=>if c.w=2 then l.dropLast++[bj c.p]else l
  |none=>l
theorem eZ(l:List Cell)(c:Cell):aZ (l++[c])=if c.w=2 then l++[bj c.p]else l++[c]:=by
  unfold aZ
  simp
@[simp] theorem iP(k n:Nat):ec (k:Int) n=min k n:=by
  unfold ec
  rw[if_pos (by(exact Int.natCast_nonneg k))];simp
theorem EY{α:Type}(l:List α)(n:Nat):cut l (cT (some 0) l.length) (cU (some (n:Int)) l.length)=l.take n:=by
  simp only[cut,cT,cU,iP,show ec 0 l.length=0 by simp[ec]]
  rw[List.drop_zero]
  rcases Nat.le_total n l.length with h|h
  · rw[Nat.min_eq_left h]
  · rw[Nat.min_eq_right h,List.take_length,List.take_of_length_le h]
theorem tr(d:Nat){L W I:List V}{rt:Int}{c0 c:Cell}{b:Bool}(hcut:cut L (cT (some 0) L.length) (cU (some (max 0 (rt+1))) L.length)=W)(e1:item (.lst W) (.v (.int 0))=some (.v c0.v))(h0:c0.w≠0)
    (e2:item (.lst W) (.v (.int (-1)))=some (.v c.v))(e3:bn .ne (.lst W) (.lst [])=some true){j:Nat}(e5:ix (-1) W.length=some j)(e6:W.set j (bj c.p).v=I)(hb:b=decide (c.w=2)):
    Ph (d+4) "line_slice" [.v (.lst L),.v (.int 0),.v (.int rt)]=some (.lst (if b then I else W),[.v (.lst L),.v (.int 0),.v (.int rt)]):=by
  have hbk:=cP (d+1) c.p
  have hn:M.lst (cut L (cT (some (max 0 0)) L.length) (cU (some (max 0 (rt+1))) L.length))=.lst W:=congrArg M.lst hcut
  have hs:lh (.v (.int (-1))) (.v (bj c.p).v) (.lst W)=some (.lst I):=by simp[e5,e6]
  cases b with
  |true=>
    have hw:c.w=2:=by simpa using hb
    exact aD fX rfl [.n _,.d _,.b true,.m _,.b false,.d _,.b true,.m _,.b true,.m _,.c _ _,.m _] (a2 hn (a2 e3 (a2 rfl (a2 e1 (a2 (decide_eq_false h0) (a2 e3 (a2 rfl (a2 e2 (a2 (decide_eq_true hw) (a2 e2 (a2 hbk (a2 hs (a2 rfl rfl)))))))))))):)
  |false=>
    have hw:c.w≠2:=by simpa using hb
    exact aD fX rfl [.n _,.d _,.b true,.m _,.b false,.d _,.b true,.m _,.b false] (a2 hn (a2 e3 (a2 rfl (a2 e1 (a2 (decide_eq_false h0) (a2 e3 (a2 rfl (a2 e2 (a2 (decide_eq_false hw) (a2 rfl rfl))))))))):)
theorem h_(d:Nat)(cs:List Cell)(n:Nat)(hn:0<n)(hc:∀c,cs[0]?=some c→c.w≠0)(hne:cs≠[]):
    Ph (d+4) "line_slice" [.v (.lst (enc cs)),.v (.int 0),.v (.int ((n:Int)-1))]=some (.lst (enc (aZ (cs.take n))),[.v (.lst (enc cs)),.v (.int 0),.v (.int ((n:Int)-1))]):=by
  obtain⟨c0,r,rfl⟩:=List.exists_cons_of_ne_nil hne
  obtain⟨k,rfl⟩:∃k,n=k+1:=⟨n-1,by(exact zf (by trivial))⟩
  obtain⟨i,c,hi⟩:∃i c,(c0::r).take (k+1)=i++[c]:=⟨_,_,(List.dropLast_concat_getLast (l:=(c0::r).take (k+1)) (List.cons_ne_nil _ _)).symm⟩
  rw[tr d (c0:=c0) (c:=c) (W:=enc (i++[c])) (I:=enc (i++[bj c.p])) (j:=i.length) ?_ ?_ (hc c0 rfl) fk (by rw[kJ];simp) (by rw[hV (by simp)];simp) (by simp[aN,eY]) rfl]
  · rw[hi,eZ]
    by_cases hw:c.w=2<;>simp[hw]
  · have hmax:max 0 ((((k+1:Nat):Int)-1)+1)=((k+1:Nat):Int):=by lia
    rw[hmax,EY,←hZ,hi]
  · exact b5 (by decide) (by rw[←hi];rfl)
end Mine.Internal
end
section
set_option genInjectivity true
namespace Mine.Internal
@[simp] theorem EF(c a:String):GT.prop c a=if c="Line" then(if a="columns" then some "Line:columns" else none)else none:=rfl
noncomputable def saP(c a:String)(m:M)(fs:List (String×M)):Option String→Option M
  |none=>if fs.length≤900 then some (.obj c (jm fs a m))else none
  |some _=>none
@[simp] theorem E3(c a:String)(m:M)(fs:List (String×M)):saP c a m fs none=if fs.length≤900 then some (.obj c (jm fs a m))else none:=rfl
@[simp] theorem D7(G:Tab)(a c:String)(m:M)(fs:List (String×M)):my G a m (.obj c fs)=saP c a m fs (G.prop c a):=by
  simp only[my]
  cases G.prop c a<;>rfl
@[simp] theorem CT(n a:String)(x m:M)(r:List (String×M)):jm ((n,x)::r) a m=if n=a then(n,m)::r else(n,x)::jm r a m:=rfl
theorem mc:∀(l:List Int),V.pures (l.map .int)=true
  |[]=>rfl
  |_::r=>by exact mc r
@[simp] theorem Cell.pure_v(c:Cell):c.v.pure=true:=by show(V.pures (c.t.map .int)&&true)=true;rw[mc];rfl
@[simp] theorem wx:∀(l:List Cell),V.pures (enc l)=true
  |[]=>rfl
  |c::r=>by rw[eY,Ad,Cell.pure_v,wx r];rfl
@[simp] theorem EG(l:List V):M.indep (.lst l)=V.pures l:=rfl
@[simp] theorem E4(x:V):M.indep (.v x)=x.pure:=rfl
@[simp] theorem EZ(i:Int):(V.int i).pure=true:=rfl
@[simp] theorem EH(i:Bool):(V.bool i).pure=true:=rfl
@[simp] theorem E0(i:String):(V.str i).pure=true:=rfl
structure Ln where
  cells:List Cell
  goes:Bool
  size:String
noncomputable def Ln.obj(l:Ln):V:=.obj "Line" [("cells",.lst (enc l.cells)),("is_wrapped",.bool l.goes),("size",.str l.size)]
noncomputable def Ln.own(l:Ln):M:=.obj "Line" [("cells",.lst (enc l.cells)),("is_wrapped",.v (.bool l.goes)),("size",.v (.str l.size))]
noncomputable def Ln.lst(l:Ln):V:=.lst [.lst (enc l.cells),.bool l.goes,.str l.size]
theorem jf(d:Nat)(n:Int)(p:Pen)(h:n≤1000)(h0:-1000≤n):Ph (d+4) "Line.__init__" [.obj "Line" [],.v (.int n),.v p.v]=some (.v .none,[Ln.own ⟨List.replicate n.toNat (bj p),false,"single"⟩,.v (.int n),.v p.v]):=by
  exact aD nc rfl [.c _ _] (a2 (dz d n p h h0) (a2 rfl rfl):)
theorem kK(d:Nat)(l:Ln):Ph (d+1) "Line:columns" [.v l.obj]=some (.v (.int l.cells.length),[.v l.obj]):=by
  exact aD jo rfl [.n _] (a2 (vi (congrArg Int.ofNat (ab l.cells))) (a2 rfl rfl):)
theorem wy(d:Nat):Ph (d+4) "Line.__init__" [.obj "Line" [],.v (.int 0),.v bK]=some (.v .none,[Ln.own ⟨[],false,"single"⟩,.v (.int 0),.v bK]):=jf d 0 bN (by decide) (by decide)
theorem oR(d:Nat)(l:Ln):Ph (d+5) "Line.copy" [.v l.obj]=some (l.own,[.v l.obj]):=by
  exact aD ng rfl [.c _ (_::_)] (a2 rfl (a2 (wy d) (a2 rfl rfl)):)
theorem gu(a b:List V)(h:(a++b).length≤big):a9 .add (.lst a) (.lst b)=some (.lst (a++b)):=by
  show(Option.bind (M.list? (.lst a)) fun x=>Option.bind (M.list? (.lst b)) fun y=>(bG (x++y)).map M.lst)=_
  simp only[l_l,Option.bind_some,bG,if_pos h,Option.map_some]
noncomputable def bl(cs:List Cell)(n:Nat):List Cell:=(if n<cs.length then aZ (cs.take n)else cs)++List.replicate (n-cs.length) ao
theorem bx(l:List Cell):(aZ l).length=l.length:=by
  unfold aZ
  split
  · rename_i c hc
    have:l≠[]:=fun e=>by subst e;simp at hc
    split
    · have:=List.length_pos_iff.mpr this
      simp;(exact Nat.sub_add_cancel this)
    · rfl
  · rfl
theorem kL(d:Nat)(l:Ln)(n:Nat)(hn:0<n)(hn2:n≤100)(hl:l.cells.length≤100)(hc:∀c,l.cells[0]?=some c→c.w≠0)(hne:l.cells≠[]):
    Ph (d+6) "Line.resized" [.v l.obj,.v (.int n),.v bK]=some (Ln.own ⟨bl l.cells n,l.goes&&decide (n=l.cells.length),l.size⟩,[.v l.obj,.v (.int n),.v bK]):=by
  have hs:=h_ (d+1) l.cells n hn hc hne
  have hcp:=oR d l
  have heq:=vb (congrArg (l.goes&& ·) (show decide ((n:Int)=((enc l.cells).length:Int))=decide (n=l.cells.length)by rw[ab,dn]))
  by_cases hlt:n<l.cells.length
  · have hb:=dz (d+2) ((n:Int)-((enc (aZ (l.cells.take n))).length:Int)) bN (by rw[ab,bx,List.length_take];lia) (by rw[ab,bx,List.length_take];lia)
    have h0:((n:Int)-((enc (aZ (l.cells.take n))).length:Int)).toNat=0:=by rw[ab,bx,List.length_take];lia
    rw[h0]at hb
    have hap:a9 .add (.lst (enc (aZ (l.cells.take n)))) (.lst [])=some (.lst (enc (bl l.cells n))):=by
      rw[gu _ _ (by simp[bx,big];(exact Nat.le_succ_of_le (by trivial)))]
      unfold bl
      rw[if_pos hlt,show n-l.cells.length=0 by(exact Nat.sub_eq_zero_of_le (by trivial))]
      simp
    exact aD el rfl [.c _ _,.b true,.c _ _,.c _ _,.m _,.p,.n _] (a2 hcp (a2 (dT (show(n:Int)<((enc l.cells).length:Int)by rw[ab];(exact Int.ofNat_lt.mpr hlt))) (a2 hs (a2 (show(M.indep (.lst (enc (aZ (l.cells.take n))))&&[false,false,false].all (!·))=true by simp) (a2 hb (a2 hap (a2 rfl (a2 heq (a2 rfl rfl)))))))):)
  · have hb:=dz (d+2) ((n:Int)-((enc l.cells).length:Int)) bN (by lia) (by rw[ab];lia)
    have h0:((n:Int)-((enc l.cells).length:Int)).toNat=n-l.cells.length:=by rw[ab];(exact Int.toNat_sub n l.cells.length)
    rw[h0]at hb
    have hap:a9 .add (.lst (enc l.cells)) (.lst (enc (List.replicate (n-l.cells.length) (bj bN))))=some (.lst (enc (bl l.cells n))):=by
      rw[gu _ _ (by simp[big];omega)]
      unfold bl
      rw[if_neg hlt,aN];rfl
    exact aD el rfl [.c _ _,.b false,.c _ _,.m _,.p,.n _] (a2 hcp (a2 (dF (show¬(n:Int)<((enc l.cells).length:Int)by rw[ab];(simp[*]))) (a2 hb (a2 hap (a2 rfl (a2 heq (a2 rfl rfl)))))):)
theorem tv(d:Nat)(l:Ln)(hl:l.cells.length≤100)(hc:∀c,l.cells[0]?=some c→c.w≠0)(hne:l.cells≠[])(hf:aZ l.cells=l.cells):
    Ph (d+5) "line_of" [.v (.lst (enc l.cells)),.v (.bool l.goes),.v (.str l.size)]=some (l.own,[.v (.lst (enc l.cells)),.v (.bool l.goes),.v (.str l.size)]):=by
  have hs:=h_ d l.cells l.cells.length (List.length_pos_iff.mpr hne) hc hne
  rw[List.take_length,hf]at hs
  exact aD qg rfl [.c _ (_::_),.a _,.a _,.a _,.a _,.c _ _] (a2 rfl (a2 (wy d) (a2 rfl (a2 rfl (a2 rfl (a2 (vi (show((enc l.cells).length:Int)-1=(l.cells.length:Int)-1 by rw[ab])) (a2 hs (a2 rfl rfl))))))):)
end Mine.Internal
end
section
set_option genInjectivity true
namespace Mine.Internal
theorem b6{G:Tab}{Φ:Phi}{c:E}{b:List S}{σ σ':List M}{fl:Fl}{n:Nat}(h:Runs (cJ G Φ c b) n σ (fl,σ'))(hn:n<big):ex G Φ (.whl c b) σ=some (fl,σ'):=by
  rw[DS];exact h.iter hn
noncomputable def used(cs:List Cell):Nat→Nat
  |0=>0
  |n+1=>if(cs[n]?).any Cell.plain then used cs n else n+1
theorem qo(cs:List Cell)(n:Nat):used cs (n+1)=if(cs[n]?).any Cell.plain then used cs n else n+1:=rfl
theorem ia(cs:List Cell):∀n,used cs n≤n
  |0=>Nat.le_refl _
  |n+1=>by
    rw[qo]
    split
    · exact Nat.le_succ_of_le (ia cs n)
    · exact Nat.le_refl _
noncomputable def strip(cs:List Cell):List Cell:=cs.take (used cs cs.length)
theorem tw(d:Nat)(cs:List Cell)(n:Nat)(hn:n<cs.length):cJ GT (Ph (d+1)) (.and [(.cmp .gt (.var 1) (.int 0)),(.call "is_plain_blank" [(.sub (.var 0) (.bin .sub (.var 1) (.int 1)))])]) [(.asg (.var 1 false) (.bin .sub (.var 1) (.int 1)))] [.v (.lst (enc cs)),.v (.int ((n+1:Nat):Int))]=
    some (if cs[n].plain then .inl [.v (.lst (enc cs)),.v (.int (n:Int))]else .inr (.next,[.v (.lst (enc cs)),.v (.int ((n+1:Nat):Int))])):=by
  have hp:(0:Int)<((n+1:Nat):Int):=by(exact Int.ofNat_le.mpr (by trivial))
  have hsub:((n+1:Nat):Int)-1=(n:Int):=by(exact jF (by trivial))
  generalize((n+1:Nat):Int)=k at hp hsub ⊢
  have hi:item (.lst (enc cs)) (.v (.int (n:Int)))=some (.v cs[n].v):=b5 (by(solve_by_elim (maxDepth:=3) [Nat.lt_of_lt_of_le,Nat.le_trans,Nat.add_le_add,Nat.le_add_right,Nat.le_add_left,Nat.sub_le,Nat.min_le_left,Nat.min_le_right,Nat.succ_le_of_lt,Nat.lt_of_succ_le])) (by simp[hn])
  rw[←hsub]at hi ⊢
  have hb:=iO d cs[n]
  cases hc:cs[n].plain with
  |true=>
    rw[hc]at hb
    exact ci (σ₁:=[.v (.lst (enc cs)),.v (.int k)]) (aM [.b true,.m _,.c _ _] (a2 (decide_eq_true hp) (a2 hi (a2 hb (a2 rfl rfl))):)) (ora [] (a2 rfl rfl:))
  |false=>
    rw[hc]at hb
    exact aJ (aM [.b true,.m _,.c _ _] (a2 (decide_eq_true hp) (a2 hi (a2 hb (a2 rfl rfl))):))
theorem tx(d:Nat)(cs:List Cell):∀n,n≤cs.length→∃k,k≤n∧Runs (cJ GT (Ph (d+1)) (.and [(.cmp .gt (.var 1) (.int 0)),(.call "is_plain_blank" [(.sub (.var 0) (.bin .sub (.var 1) (.int 1)))])]) [(.asg (.var 1 false) (.bin .sub (.var 1) (.int 1)))]) k [.v (.lst (enc cs)),.v (.int (n:Int))] (.next,[.v (.lst (enc cs)),.v (.int (used cs n:Int))]):=by
  intro n_
  induction n_ with
  |zero=>exact fun _=>⟨0,Nat.le_refl _,.done (aJ (aM [.b false] (a2 rfl (a2 rfl rfl):)))⟩
  |succ n ih=>
    intro h
    have ht:=tw d cs n h
    have hx:cs[n]?=some cs[n]:=List.getElem?_eq_getElem h
    cases hc:cs[n].plain with
    |true=>
      obtain⟨k,hk,hr⟩:=ih (by(exact Nat.le_of_lt (by trivial)))
      refine⟨k+1,by(exact Nat.lt_succ_of_le (by trivial)),.step (by rw[ht,hc];rfl) ?_⟩
      rw[used,hx]
      simpa[hc]using hr
    |false=>
      refine⟨0,Nat.zero_le _,.done ?_⟩
      rw[ht,hc,used,hx]
      simp[hc]
theorem fZ(d:Nat)(cs:List Cell)(h:cs.length≤10000):Ph (d+2) "reflow_used" [.v (.lst (enc cs))]=some (.lst (enc (strip cs)),[.v (.lst (enc cs))]):=by
  obtain⟨k,hk,hr⟩:=tx d cs cs.length (Nat.le_refl _)
  have hw:=b6 hr (by have:big=1048576:=rfl;(exact Nat.succ_le_of_lt (by trivial)))
  have hc:cut (enc cs) (cT none cs.length) (cU (some (used cs cs.length:Int)) cs.length)=enc (strip cs):=by
    have:=ia cs cs.length
    simp[cut,cT,cU,strip,hZ,Nat.min_eq_left this]
  rw[←hc]
  rw[←ab cs]at hw ⊢
  exact aD kE rfl [.k,.s _ _] (a2 hw (a2 rfl rfl):)
theorem ln(d:Nat)(l:Ln)(h:l.cells≠[]):Ph (d+1) "reflow_begins_wide" [.v l.obj]=some (.v (.bool (decide ((l.cells.head h).w=2))),[.v l.obj]):=by
  obtain⟨c,r,hr⟩:=List.exists_cons_of_ne_nil h
  have hi:item (.lst (enc l.cells)) (.v (.int 0))=some (.v (l.cells.head h).v):=b5 (by decide) (by simp[hr])
  have hp:decide ((0:Int)<((enc l.cells).length:Int))=true:=decide_eq_true (by rw[ab];exact Int.ofNat_lt.mpr (List.length_pos_iff.mpr h))
  exact aD eu rfl [.b true,.m _] (a2 hp (a2 hi (a2 rfl rfl)):)
noncomputable def aq(ls:List Ln):List V:=ls.map Ln.obj
noncomputable def aj(ls:List Ln):List V:=ls.map Ln.lst
@[simp] theorem cF(ls:List Ln):(aq ls).length=ls.length:=by simp[aq]
@[simp] theorem b7(ls:List Ln):(aj ls).length=ls.length:=by simp[aj]
theorem gv{ls:List Ln}{i:Int}{l:Ln}(h:0≤i)(hx:ls[i.toNat]?=some l):item (.lst (aq ls)) (.v (.int i))=some (.v l.obj):=cq h (by simp[aq,hx])
theorem dA{ls:List Ln}{i:Int}{l:Ln}(h:0≤i)(hx:ls[i.toNat]?=some l):item (.lst (aj ls)) (.v (.int i))=some (.v l.lst):=cq h (by simp[aj,hx])
noncomputable def aR(ls:List Ln)(i:Nat):Bool:=match ls[i]?,ls[i+1]? with
  |some a,some b=>a.goes&&decide (a.size="single")&&decide (b.size="single")
  |_,_=>false
theorem dX{ls:List Ln}{i:Nat}(h:aR ls i=true):i+1<ls.length:=by
  unfold aR at h
  split at h
  · rename_i hb
    rcases Nat.lt_or_ge (i+1) ls.length with q|q
    · exact q
    · rw[List.getElem?_eq_none q]at hb;cases hb
  · cases h
noncomputable def kM(ls:List Ln):Prop:=∀l∈ls,l.cells≠[]∧l.cells.length≤100
theorem iQ(d:Nat)(ls:List Ln)(i:Nat)(hi:i<ls.length)(hf:kM ls):Ph (d+1) "reflow_goes_on" [.v (.lst (aq ls)),.v (.int i)]=some (.v (.bool (aR ls i)),[.v (.lst (aq ls)),.v (.int i)]):=by
  have ha:=(bf _ _).trans (gv (ls:=ls) (i:=(i:Int)) (by(solve_by_elim (maxDepth:=3) [Nat.lt_of_lt_of_le,Nat.le_trans,Nat.add_le_add,Nat.le_add_right,Nat.le_add_left,Nat.sub_le,Nat.min_le_left,Nat.min_le_right,Nat.succ_le_of_lt,Nat.lt_of_succ_le])) (by simp;exact List.getElem?_eq_getElem hi))
  have hne:ls[i].cells.length≠0:=fun e=>(hf _ (List.getElem_mem hi)).1 (List.eq_nil_of_length_eq_zero e)
  by_cases h1:i+1<ls.length
  · have hG:aR ls i=(ls[i].goes&&decide (ls[i].size="single")&&decide (ls[i+1].size="single")):=by
      unfold aR;rw[List.getElem?_eq_getElem hi,List.getElem?_eq_getElem h1]
    rw[hG]
    have hb:=(bf _ _).trans (gv (ls:=ls) (i:=(i:Int)+1) (by(solve_by_elim (maxDepth:=3) [Nat.lt_of_lt_of_le,Nat.le_trans,Nat.add_le_add,Nat.le_add_right,Nat.le_add_left,Nat.sub_le,Nat.min_le_left,Nat.min_le_right,Nat.succ_le_of_lt,Nat.lt_of_succ_le])) (by rw[show((i:Int)+1).toNat=i+1 by(solve_by_elim (maxDepth:=3) [Nat.lt_of_lt_of_le,Nat.le_trans,Nat.add_le_add,Nat.le_add_right,Nat.le_add_left,Nat.sub_le,Nat.min_le_left,Nat.min_le_right,Nat.succ_le_of_lt,Nat.lt_of_succ_le])];exact List.getElem?_eq_getElem h1))
    have hz:(decide (((aq ls).length:Int)≤(i:Int)+1)||(!ls[i].goes||decide (((enc ls[i].cells).length:Int)=0)))=!ls[i].goes:=by
      rw[cF,ab,dF (show¬(ls.length:Int)≤(i:Int)+1 by lia),dF (show¬(ls[i].cells.length:Int)=0 by omega),Bool.false_or,Bool.or_false]
    rcases hg:ls[i].goes with _|_
    · exact aD b0 rfl [.p,.m _,.p,.m _,.b true] (a2 ha (a2 ha (a2 rfl (a2 rfl (a2 (hz.trans (by rw[hg])) (a2 rfl rfl))))):)
    · exact aD b0 rfl [.p,.m _,.p,.m _,.b false,.m _,.p,.m _] (a2 ha (a2 ha (a2 rfl (a2 rfl (a2 (hz.trans (by rw[hg])) (a2 ha (a2 hb (a2 rfl (a2 rfl rfl)))))))):)
  · have hG:aR ls i=false:=by
      unfold aR;rw[List.getElem?_eq_getElem hi,List.getElem?_eq_none (by lia)]
    rw[hG]
    exact aD b0 rfl [.b true,.b true] (a2 (dT (show((aq ls).length:Int)≤(i:Int)+1 by rw[cF];lia)) (a2 rfl (a2 rfl rfl)):)
theorem dB(d:Nat)(ls:List Ln)(i:Nat)(hi:i<ls.length):Ph (d+1) "_law_goes_on" [.v (.lst (aj ls)),.v (.int i)]=some (.v (.bool (aR ls i)),[.v (.lst (aj ls)),.v (.int i)]):=by
  have ha:=(bf _ _).trans (dA (ls:=ls) (i:=(i:Int)) (by(solve_by_elim (maxDepth:=3) [Nat.lt_of_lt_of_le,Nat.le_trans,Nat.add_le_add,Nat.le_add_right,Nat.le_add_left,Nat.sub_le,Nat.min_le_left,Nat.min_le_right,Nat.succ_le_of_lt,Nat.lt_of_succ_le])) (by simp;exact List.getElem?_eq_getElem hi))
  unfold aR
  rw[List.getElem?_eq_getElem hi]
  by_cases h1:i+1<ls.length
  · rw[List.getElem?_eq_getElem h1]
    have hb:=(bf _ _).trans (dA (ls:=ls) (i:=(i:Int)+1) (by(solve_by_elim (maxDepth:=3) [Nat.lt_of_lt_of_le,Nat.le_trans,Nat.add_le_add,Nat.le_add_right,Nat.le_add_left,Nat.sub_le,Nat.min_le_left,Nat.min_le_right,Nat.succ_le_of_lt,Nat.lt_of_succ_le])) (by rw[show((i:Int)+1).toNat=i+1 by(solve_by_elim (maxDepth:=3) [Nat.lt_of_lt_of_le,Nat.le_trans,Nat.add_le_add,Nat.le_add_right,Nat.le_add_left,Nat.sub_le,Nat.min_le_left,Nat.min_le_right,Nat.succ_le_of_lt,Nat.lt_of_succ_le])];exact List.getElem?_eq_getElem h1))
    have e:M.v (.bool (decide ((i:Int)+1<((aj ls).length:Int))&&(ls[i].goes&&(decide (ls[i].size="single")&&decide (ls[i+1].size="single")))))=.v (.bool (ls[i].goes&&decide (ls[i].size="single")&&decide (ls[i+1].size="single"))):=vb (by
      rw[b7,dT (show(i:Int)+1<(ls.length:Int)by(exact Int.ofNat_lt.mpr (by trivial))),Bool.true_and,Bool.and_assoc])
    exact aD eV rfl [.p,.m _,.m _,.p,.m _,.m _,.p,.m _,.m _,.n _] (a2 ha (a2 rfl (a2 ha (a2 rfl (a2 hb (a2 rfl (a2 rfl (a2 rfl (a2 rfl (a2 e (a2 rfl rfl)))))))))):)
  · rw[List.getElem?_eq_none (by(exact Nat.le_of_lt_succ (by first|assumption|omega)))]
    exact aD eV rfl [.b false] (a2 (dF (show¬(i:Int)+1<((aj ls).length:Int)by rw[b7];lia)) (a2 rfl rfl):)
noncomputable def bE(ls:List Ln)(i:Nat):Bool:=aR ls i&&(match(ls[i]?).bind (·.cells.getLast?),(ls[i+1]?).bind (·.cells.head?)with
  |some c,some e=>c.blank?&&decide (e.w=2)
  |_,_=>false)
theorem cr{l:List Cell}(h:l≠[]):l=l.dropLast++[l.getLast h]:=(List.dropLast_concat_getLast h).symm
theorem f0(d:Nat)(ls:List Ln)(i:Nat)(hi:i<ls.length)(hf:kM ls):Ph (d+2) "_law_is_free" [.v (.lst (aj ls)),.v (.int i)]=some (.v (.bool (bE ls i)),[.v (.lst (aj ls)),.v (.int i)]):=by
  have ha:=(bf _ _).trans (dA (ls:=ls) (i:=(i:Int)) (by(solve_by_elim (maxDepth:=3) [Nat.lt_of_lt_of_le,Nat.le_trans,Nat.add_le_add,Nat.le_add_right,Nat.le_add_left,Nat.sub_le,Nat.min_le_left,Nat.min_le_right,Nat.succ_le_of_lt,Nat.lt_of_succ_le])) (by simp;exact List.getElem?_eq_getElem hi))
  have hne:=(hf _ (List.getElem_mem hi)).1
  have hl:item (.v (.lst (enc ls[i].cells))) (.v (.int (-1)))=some (.v (ls[i].cells.getLast hne).v):=by
    rw[bf]
    conv=>lhs;rw[cr hne]
    exact fk
  have hg:=dB d ls i hi
  cases hq:aR ls i with
  |false=>
    rw[hq]at hg
    have e:bE ls i=false:=by unfold bE;rw[hq];rfl
    rw[e]
    exact aD eW rfl [.m _,.m _,.m _,.c _ _,.b false] (a2 ha (a2 rfl (a2 hl (a2 hg (a2 rfl (a2 rfl rfl))))):)
  |true=>
    rw[hq]at hg
    have h1:=dX hq
    have hne':=(hf _ (List.getElem_mem h1)).1
    have hb:=(bf _ _).trans (dA (ls:=ls) (i:=(i:Int)+1) (by(solve_by_elim (maxDepth:=3) [Nat.lt_of_lt_of_le,Nat.le_trans,Nat.add_le_add,Nat.le_add_right,Nat.le_add_left,Nat.sub_le,Nat.min_le_left,Nat.min_le_right,Nat.succ_le_of_lt,Nat.lt_of_succ_le])) (by rw[show((i:Int)+1).toNat=i+1 by(solve_by_elim (maxDepth:=3) [Nat.lt_of_lt_of_le,Nat.le_trans,Nat.add_le_add,Nat.le_add_right,Nat.le_add_left,Nat.sub_le,Nat.min_le_left,Nat.min_le_right,Nat.succ_le_of_lt,Nat.lt_of_succ_le])];exact List.getElem?_eq_getElem h1))
    have hh:item (.v (.lst (enc ls[i+1].cells))) (.v (.int 0))=some (.v (ls[i+1].cells.head hne').v):=(bf _ _).trans (b5 (by decide) (by
      obtain⟨c,r,hr⟩:=List.exists_cons_of_ne_nil hne'
      simp[hr]))
    have e1:bE ls i=((ls[i].cells.getLast hne).blank?&&decide ((ls[i+1].cells.head hne').w=2)):=by
      unfold bE
      rw[hq,List.getElem?_eq_getElem hi,List.getElem?_eq_getElem h1]
      simp only[Option.bind_some,List.getLast?_eq_some_getLast hne,List.head?_eq_some_head hne',Bool.true_and]
    have e:=vb (Bool.and_assoc (ls[i].cells.getLast hne).t.isEmpty (decide ((ls[i].cells.getLast hne).w=1)) (decide ((ls[i+1].cells.head hne').w=2))).symm
    rw[e1]
    exact aD eW rfl [.m _,.m _,.m _,.c _ _,.b true,.d _,.p,.p,.m _,.m _,.m _,.n _] (a2 ha (a2 rfl (a2 hl (a2 hg (a2 rfl (a2 (z6 _) (a2 hb (a2 rfl (a2 hh (a2 rfl (a2 rfl (a2 e (a2 rfl rfl)))))))))))):)
end Mine.Internal
end
section
set_option genInjectivity true
namespace Mine.Internal
noncomputable def ai(ls:List Ln)(i:Nat):List Cell:=match ls[i]? with
  |some l=>if aR ls i then(if bE ls i then l.cells.dropLast else l.cells)else strip l.cells
  |none=>[]
noncomputable def ib(ls:List Ln)(i:Nat):M:=if aR ls i&&!bE ls i then .v (.lst (enc (ai ls i)))else .lst (enc (ai ls i))
theorem Ci(l:List V)(x:V):cut (l++[x]) (cT none (l++[x]).length) (cU (some (-1)) (l++[x]).length)=l:=by
  have:ec (-1) (l++[x]).length=l.length:=by
    unfold ec
    rw[if_neg (by(decide))];simp;(exact ze (by trivial))
  simp only[cut,cT,cU,this]
  simp
theorem f5(d:Nat)(ls:List Ln)(i:Nat)(hi:i<ls.length)(hf:kM ls):Ph (d+3) "reflow_part" [.v (.lst (aq ls)),.v (.int i)]=some (ib ls i,[.v (.lst (aq ls)),.v (.int i)]):=by
  have ha:=(bf _ _).trans (gv (ls:=ls) (i:=(i:Int)) (by(solve_by_elim (maxDepth:=3) [Nat.lt_of_lt_of_le,Nat.le_trans,Nat.add_le_add,Nat.le_add_right,Nat.le_add_left,Nat.sub_le,Nat.min_le_left,Nat.min_le_right,Nat.succ_le_of_lt,Nat.lt_of_succ_le])) (by simp;exact List.getElem?_eq_getElem hi))
  have hne:=(hf _ (List.getElem_mem hi)).1
  have hg:=iQ (d+1) ls i hi hf
  have hL:ls[i]?=some ls[i]:=List.getElem?_eq_getElem hi
  cases hq:aR ls i with
  |false=>
    rw[hq]at hg
    have hu:=fZ d ls[i].cells (by have:=(hf _ (List.getElem_mem hi)).2;(exact Nat.le_trans (by trivial) (Nat.le_add_left _ _)))
    have e:ib ls i=.lst (enc (strip ls[i].cells)):=by simp[ib,ai,hq,hL]
    rw[e]
    exact aD bZ rfl [.m _,.c _ _,.b true,.c _ _] (a2 ha (a2 hg (a2 rfl (a2 hu (a2 rfl rfl)))):)
  |true=>
    rw[hq]at hg
    have h1:=dX hq
    have hne':=(hf _ (List.getElem_mem h1)).1
    have hb:=(bf _ _).trans (gv (ls:=ls) (i:=(i:Int)+1) (by(solve_by_elim (maxDepth:=3) [Nat.lt_of_lt_of_le,Nat.le_trans,Nat.add_le_add,Nat.le_add_right,Nat.le_add_left,Nat.sub_le,Nat.min_le_left,Nat.min_le_right,Nat.succ_le_of_lt,Nat.lt_of_succ_le])) (by rw[show((i:Int)+1).toNat=i+1 by(solve_by_elim (maxDepth:=3) [Nat.lt_of_lt_of_le,Nat.le_trans,Nat.add_le_add,Nat.le_add_right,Nat.le_add_left,Nat.sub_le,Nat.min_le_left,Nat.min_le_right,Nat.succ_le_of_lt,Nat.lt_of_succ_le])];exact List.getElem?_eq_getElem h1))
    have hl:item (.v (.lst (enc ls[i].cells))) (.v (.int (-1)))=some (.v (ls[i].cells.getLast hne).v):=by
      rw[bf]
      conv=>lhs;rw[cr hne]
      exact fk
    have hw:=ln (d+1) ls[i+1] hne'
    have hbl:=qn (d+1) (ls[i].cells.getLast hne)
    have e1:bE ls i=((ls[i].cells.getLast hne).blank?&&decide ((ls[i+1].cells.head hne').w=2)):=by
      unfold bE
      rw[hq,hL,List.getElem?_eq_getElem h1]
      simp only[Option.bind_some,List.getLast?_eq_some_getLast hne,List.head?_eq_some_head hne',Bool.true_and]
    have hc:cut (enc ls[i].cells) (cT none (enc ls[i].cells).length) (cU (some (-1)) (enc ls[i].cells).length)=enc ls[i].cells.dropLast:=by
      have:=Ci (enc ls[i].cells.dropLast) (ls[i].cells.getLast hne).v
      have e:enc ls[i].cells.dropLast++[(ls[i].cells.getLast hne).v]=enc ls[i].cells:=by
        conv=>rhs;rw[cr hne]
        rw[aN];rfl
      rw[e]at this
      exact this
    cases hfr:bE ls i with
    |true=>
      have e:ib ls i=.lst (enc ls[i].cells.dropLast):=by simp[ib,ai,hq,hL,hfr]
      rw[e]
      rw[hfr]at e1
      have e1:=e1.symm
      simp only[Bool.and_eq_true]at e1
      rw[e1.1]at hbl
      rw[e1.2]at hw
      exact aD bZ rfl [.m _,.c _ _,.b false,.m _,.c _ _,.b true,.m _,.c _ _,.b true,.n _] (a2 ha (a2 hg (a2 rfl (a2 hl (a2 hbl (a2 rfl (a2 hb (a2 hw (a2 rfl (a2 (ml hc) (a2 rfl rfl)))))))))):)
    |false=>
      have e:ib ls i=.v (.lst (enc ls[i].cells)):=by simp[ib,ai,hq,hL,hfr]
      rw[e]
      rw[hfr]at e1
      cases hb1:(ls[i].cells.getLast hne).blank? with
      |false=>
        rw[hb1]at hbl
        exact aD bZ rfl [.m _,.c _ _,.b false,.m _,.c _ _,.b false,.b false] (a2 ha (a2 hg (a2 rfl (a2 hl (a2 hbl (a2 rfl (a2 rfl (a2 rfl rfl))))))):)
      |true=>
        rw[hb1]at hbl e1
        rw[Bool.true_and]at e1
        rw[←e1]at hw
        exact aD bZ rfl [.m _,.c _ _,.b false,.m _,.c _ _,.b true,.m _,.c _ _,.b false] (a2 ha (a2 hg (a2 rfl (a2 hl (a2 hbl (a2 rfl (a2 hb (a2 hw (a2 rfl (a2 rfl rfl))))))))):)
noncomputable def c_(l:List Nat):List V:=l.map fun(n:Nat)=>V.int (n:Int)
@[simp] theorem wz(l:List Nat):(c_ l).length=l.length:=by simp[c_]
theorem ty(l:List Nat)(n:Nat):c_ (l++[n])=c_ l++[.int n]:=by simp[c_]
theorem Cj{l:List Nat}{i:Int}{n:Nat}(h:0≤i)(hx:l[i.toNat]?=some n):item (.lst (c_ l)) (.v (.int i))=some (.v (.int n)):=cq h (by simp[c_,hx])
structure LL where
  first:Nat
  size:String
  begins:List Nat
  cells:List Cell
  whole:Bool
noncomputable def LL.own(l:LL):M:=.obj "LogicalLine" [("first",.v (.int l.first)),("size",.v (.str l.size)),("begins",.lst (c_ l.begins)),("cells",.lst (enc l.cells)),("is_whole",.v (.bool l.whole))]
noncomputable def LL.obj(l:LL):V:=.obj "LogicalLine" [("first",.int l.first),("size",.str l.size),("begins",.lst (c_ l.begins)),("cells",.lst (enc l.cells)),("is_whole",.bool l.whole)]
noncomputable def LL.put(l:LL)(cs:List Cell):LL:={ l with begins:=l.begins++[l.cells.length],cells:=l.cells++cs }
theorem e7{l:List V}(h:l.length≤big):bG l=some l:=if_pos h
theorem tz(d:Nat)(n:Nat)(sz:String):Ph (d+1) "LogicalLine.__init__" [.obj "LogicalLine" [],.v (.int n),.v (.str sz)]=some (.v .none,[LL.own ⟨n,sz,[],[],true⟩,.v (.int n),.v (.str sz)]):=by
  exact aD fD rfl [] (a2 rfl rfl:)
theorem oS(d:Nat)(l:LL)(cs:List Cell)(h:l.begins.length≤1000)(hc:l.cells.length+cs.length≤100000):Ph (d+1) "LogicalLine.put" [l.own,.v (.lst (enc cs))]=some (.v .none,[(l.put cs).own,.v (.lst (enc cs))]):=by
  have hb:big=1048576:=rfl
  have n1:M.lst (c_ l.begins++[V.int ((enc l.cells).length:Int)])=.lst (c_ (l.begins++[l.cells.length])):=ml (by rw[ty,ab])
  exact aD gm rfl [.n _,.n _] (a2 (show(c_ l.begins++[V.int ((enc l.cells).length:Int)]).length≤big by simp;(exact Nat.lt_succ_of_lt (by first|assumption|omega))) (a2 n1 (a2 (show(enc l.cells++enc cs).length≤big by simp;(exact Nat.le_trans (by trivial) (Nat.le_add_left _ _))) (a2 (ml (aN l.cells cs).symm) (a2 rfl rfl)))):)
end Mine.Internal
end
section
set_option genInjectivity true
namespace Mine.Internal
theorem oV{α β:Type}{f:α→Option (α ⊕ β)}(I:Nat→α){b:β}:∀(n m:Nat),(∀k,k<n→f (I (m+k))=some (.inl (I (m+k+1))))→f (I (m+n))=some (.inr b)→Runs f n (I m) b
  |0,_,_,he=>.done he
  |n+1,m,h,he=>.step (h 0 (by(exact Nat.zero_lt_succ n))) (oV I n (m+1) (fun k hk=>by
      have:=h (k+1) (by(exact Nat.add_lt_add_right hk 1))
      rw[show m+1+k=m+(k+1)by(exact Nat.succ_add_eq_add_succ m k)];exact this) (by rw[show m+1+n=m+(n+1)by(exact Nat.succ_add_eq_add_succ m n)];exact he))
theorem ic{G:Tab}{Φ:Phi}{c:E}{b:List S}{σ σ':List M}{fl:Fl}(I:Nat→List M)(n:Nat)(hn:n<big)(h0:σ=I 0)(h:∀k,k<n→cJ G Φ c b (I k)=some (.inl (I (k+1))))(he:cJ G Φ c b (I n)=some (.inr (fl,σ'))):ex G Φ (.whl c b) σ=some (fl,σ'):=by
  subst h0
  exact b6 (oV I n 0 (fun k hk=>by simpa using h k hk) (by simpa using he)) hn
theorem fq{f:V→List M→Option (Option M×List M)}{σ:List M}{α:Type}{e:α→V}(p:α→Bool)(y:α→M):∀(xs:List α),(∀x∈xs,f (e x) σ=some (if p x then some (y x)else none,σ))→ac f (xs.map e) σ=some ((xs.filter p).map y,σ):=by
  intro xs_
  induction xs_ with
  |nil=>exact fun _=>rfl
  |cons x r ih=>
    intro h
    have h0:=h x (List.mem_cons_self ..)
    have ih:=ih (fun x hx=>h x (List.mem_cons_of_mem _ hx))
    simp only[List.map_cons,ua,h0,Option.bind_some,ih,Option.map_some,List.filter_cons]
    cases p x<;>simp
theorem gw{G:Tab}{Φ:Phi}:∀(a b:List S) (σ:List M),exs G Φ (a++b) σ=g9 (exs G Φ a σ) (exs G Φ b)
  |[],b,σ=>rfl
  |s::r,b,σ=>by
    show Option.bind (ex G Φ s σ) _=g9 (Option.bind (ex G Φ s σ) _) _
    cases h:ex G Φ s σ with
    |none=>rfl
    |some q=>
      obtain⟨fl,σ'⟩:=q
      cases fl with
      |next=>exact gw r b σ'
      |ret m=>rfl
theorem aS{G:Tab}{Φ:Phi}{s:S}{r:List S}{σ σ':List M}(h:ex G Φ s σ=some (.next,σ')):exs G Φ (s::r) σ=exs G Φ r σ':=by
  exact bd h rfl
end Mine.Internal
end
section
set_option genInjectivity true
namespace Mine.Internal
noncomputable def e8(l:List LL):M:=match l with
  |[]=>.lst []
  |_=>.lstM (l.map LL.own)
@[simp] theorem wA(l:List LL)(x:LL):fF x.own (e8 l)=if l.length<big then some (e8 (l++[x]))else none:=by
  cases l with
  |nil=>rfl
  |cons a r=>
    show(if((a::r).map LL.own).length<big then _ else _)=_
    simp[e8]
theorem gx(ls:List Ln)(i:Nat)(hf:kM ls):(ai ls i).length≤100:=by
  unfold ai
  split
  · rename_i l hl
    have:=(hf l (List.mem_of_getElem? hl)).2
    split
    · split
      · simp;(exact Nat.le_succ_of_le this)
      · exact this
    · unfold strip;rw[List.length_take];(exact Nat.le_trans (Nat.min_le_right _ _) (by trivial))
  · simp
noncomputable def goN(ls:List Ln):Nat→Nat→Nat
  |0,_=>0
  |f+1,at_=>if aR ls at_ then goN ls f (at_+1)+1 else 0
theorem z7(ls:List Ln)(f at_:Nat):goN ls (f+1) at_=if aR ls at_ then goN ls f (at_+1)+1 else 0:=rfl
theorem e9(ls:List Ln):∀f at_ k,k<goN ls f at_→aR ls (at_+k)=true:=by
  intro n_
  induction n_ with
  |zero=>exact fun _ _ h=>absurd h (Nat.not_lt_zero _)
  |succ f ih=>
    intro at_ k h
    rw[z7]at h
    split at h
    · rename_i hg
      cases k with
      |zero=>exact hg
      |succ k=>rw[show at_+(k+1)=at_+1+k by(exact Eq.symm (Nat.succ_add_eq_add_succ at_ k))];exact ih (at_+1) k (by(exact Nat.succ_lt_succ_iff.mp h))
    · lia
theorem nn(ls:List Ln):∀f at_,ls.length≤at_+f+1→aR ls (at_+goN ls f at_)=false:=by
  intro n_
  induction n_ with
  |zero=>
    intro at_ h
    cases hg:aR ls (at_+goN ls 0 at_)with
    |false=>rfl
    |true=>have:=dX hg;replace this:at_+1<ls.length:=this;(exact absurd (by trivial) (Nat.not_lt.mpr (by trivial)))
  |succ f ih=>
    intro at_ h
    rw[z7]
    split
    · rename_i hg
      have:=ih (at_+1) (by lia)
      rw[show at_+(goN ls f (at_+1)+1)=at_+1+goN ls f (at_+1)by(exact Eq.symm (Nat.succ_add_eq_add_succ at_ (goN ls f (at_+1))))];exact this
    · rename_i hg
      simpa using hg
theorem cQ(ls:List Ln)(f at_:Nat)(h:at_<ls.length):at_+goN ls f at_<ls.length:=by
  cases hc:goN ls f at_ with
  |zero=>simpa using h
  |succ k=>have:=dX (e9 ls f at_ k (by(simp[*])));(assumption)
noncomputable def aW(ls:List Ln)(at_ k:Nat):List (List Cell):=(List.range k).map fun i=>ai ls (at_+i)
theorem cG(ls:List Ln)(at_ k:Nat):aW ls at_ (k+1)=aW ls at_ k++[ai ls (at_+k)]:=by simp[aW,List.range_succ]
@[simp] theorem gy(ls:List Ln)(at_ k:Nat):(aW ls at_ k).length=k:=by simp[aW]
theorem cH(ls:List Ln)(at_:Nat)(hf:kM ls):∀k,(aW ls at_ k).flatten.length≤100*k
  |0=>by simp[aW]
  |k+1=>by
    have:=cH ls at_ hf k
    have h2:=gx ls (at_+k) hf
    rw[cG]
    simp
    simp at this
    (exact Nat.add_le_add (by trivial) (by trivial))
noncomputable def gz(ps:List (List Cell)):List Nat:=(List.range ps.length).map fun i=>(ps.take i).flatten.length
theorem tA(ps:List (List Cell))(c:List Cell):gz (ps++[c])=gz ps++[ps.flatten.length]:=by
  unfold gz
  rw[List.length_append,List.length_singleton,List.range_succ,List.map_append]
  congr 1
  · apply List.map_congr_left
    intro i hi
    rw[List.mem_range]at hi
    rw[List.take_append_of_le_length (by(exact Nat.le_of_succ_le hi))]
  · simp
@[simp] theorem D8(ps:List (List Cell)):(gz ps).length=ps.length:=by simp[gz]
theorem oW(ps:List (List Cell))(i:Nat)(h:i<ps.length):(gz ps)[i]?=some (ps.take i).flatten.length:=by simp[gz,h]
noncomputable def LL.of(first:Nat)(size:String)(ps:List (List Cell))(whole:Bool):LL:=⟨first,size,gz ps,ps.flatten,whole⟩
theorem LL.of_put(first:Nat)(size:String)(ps:List (List Cell))(whole:Bool)(c:List Cell):(LL.of first size ps whole).put c=LL.of first size (ps++[c]) whole:=by
  simp[LL.of,LL.put,tA]
noncomputable abbrev Ck:E:=.call "reflow_goes_on" [(.var 0),(.var 2)]
noncomputable abbrev Cm:List S:=[
      (.expr (.meth (.var 3) "LogicalLine" "put" "LogicalLine.put" [(.call "reflow_part" [(.var 0),(.var 2)])])),
      (.asg (.var 2 false) (.bin .add (.var 2) (.int 1)))]
noncomputable def aA(ls:List Ln)(at_:Nat):Nat:=goN ls ls.length at_
theorem oX(d:Nat){ls:List Ln}{i:Nat}{q:Int}(hp:Ph (d+3) "reflow_part" [.v (.lst (aq ls)),.v (.int q)]=some (ib ls i,[.v (.lst (aq ls)),.v (.int q)])){l l':LL}(h:Ph (d+3) "LogicalLine.put" [l.own,.v (.lst (enc (ai ls i)))]=some (.v .none,[l'.own,.v (.lst (enc (ai ls i)))]))(F:M):
    ex GT (Ph (d+3)) (.expr (.meth (.var 3) "LogicalLine" "put" "LogicalLine.put" [(.call "reflow_part" [(.var 0),(.var 2)])])) [.v (.lst (aq ls)),F,.v (.int q),l.own]=some (.next,[.v (.lst (aq ls)),F,.v (.int q),l'.own]):=by
  unfold ib at hp
  split at hp
  · exact aI [.c _ _,.c _ _] (a2 hp (a2 h (a2 rfl rfl)):)
  · exact aI [.c _ _,.c _ _] (a2 hp (a2 h (a2 rfl rfl)):)
theorem Cn(d:Nat)(D:List LL)(l:LL)(hD:D.length<big)(A q:M):ex GT (Ph d) (.app (.var 1) (.mov 3) true) [A,e8 D,q,l.own]=some (.next,[A,e8 (D++[l]),q,.undef]):=by
  have h:=(wA D l).trans (if_pos hD)
  cases D with
  |nil=>exact jA (aM [] (a2 rfl rfl:)) rfl (md h rfl)
  |cons a r=>exact jA (aM [] (a2 rfl rfl:)) rfl (md h rfl)
theorem yL(d:Nat)(ls:List Ln)(hf:kM ls)(hl:ls.length≤100)(Fd:M)(at_:Nat)(h:at_<ls.length)(sz:String):
    ex GT (Ph (d+3)) (.whl Ck Cm) [.v (.lst (aq ls)),Fd,.v (.int (at_:Int)),(LL.of at_ sz [] true).own]=some (.next,[.v (.lst (aq ls)),Fd,.v (.int ((at_+aA ls at_:Nat):Int)),(LL.of at_ sz (aW ls at_ (aA ls at_)) true).own]):=by
  have hlen:=cQ ls ls.length at_ h
  refine ic (fun k=>[.v (.lst (aq ls)),Fd,.v (.int ((at_+k:Nat):Int)),(LL.of at_ sz (aW ls at_ k) true).own]) (aA ls at_) (by unfold aA;have:big=1048576:=rfl;(exact Nat.lt_succ_of_lt (by first|assumption|omega))) rfl ?_ ?_
  · intro k hk
    have hg:=e9 ls ls.length at_ k hk
    have hlt:at_+k<ls.length:=by unfold aA at hk;lia
    have hp:=iQ (d+2) ls (at_+k) hlt hf
    rw[hg]at hp
    have hpart:=f5 d ls (at_+k) hlt hf
    have hpf:=cH ls at_ hf k
    have hpl:=gx ls (at_+k) hf
    have hput:=oS (d+2) (LL.of at_ sz (aW ls at_ k) true) (ai ls (at_+k)) (by simp[LL.of];(exact Nat.le_of_lt (by first|assumption|omega))) (by simp only[LL.of];(exact Nat.le_succ_of_le (by first|assumption|omega)))
    rw[LL.of_put,←cG]at hput
    have e:((at_+(k+1):Nat):Int)=((at_+k:Nat):Int)+1:=by(subst_vars;rfl)
    simp only[e]
    generalize((at_+k:Nat):Int)=q at*
    have hpp:=oX d hpart hput Fd
    clear hpart
    exact ci (aM [.c _ _] (a2 hp (a2 rfl rfl):)) (by exact ora [.s _ _] (a2 hpp (a2 rfl rfl):))
  · have hg:=nn ls ls.length at_ (by(solve_by_elim (maxDepth:=3) [Nat.lt_of_lt_of_le,Nat.le_trans,Nat.add_le_add,Nat.le_add_right,Nat.le_add_left,Nat.sub_le,Nat.min_le_left,Nat.min_le_right,Nat.succ_le_of_lt,Nat.lt_of_succ_le]))
    have hp:=iQ (d+2) ls (at_+aA ls at_) hlen hf
    have hg:aR ls (at_+aA ls at_)=false:=hg
    rw[hg]at hp
    generalize((at_+aA ls at_:Nat):Int)=q at*
    refine aJ ?_
    exact aM [.c _ _] (a2 hp (a2 rfl rfl):)
noncomputable def bz(ls:List Ln)(i:Nat):String:=((ls[i]?).map Ln.size).getD ""
noncomputable def bm(ls:List Ln)(i:Nat):Bool:=((ls[i]?).map Ln.goes).getD false
noncomputable def ad(ls:List Ln)(at_:Nat):List (List Cell):=aW ls at_ (aA ls at_+1)
noncomputable def aa(ls:List Ln)(at_:Nat):Nat:=at_+aA ls at_
noncomputable def be(ls:List Ln)(at_:Nat):LL:=LL.of at_ (bz ls at_) (ad ls at_) (!bm ls (aa ls at_))
noncomputable def ct(ls:List Ln):Nat→Nat→List LL
  |0,_=>[]
  |k+1,at_=>if at_<ls.length then be ls at_::ct ls k (aa ls at_+1)else[]
theorem me(ls:List Ln)(k at_:Nat):ct ls (k+1) at_=if at_<ls.length then be ls at_::ct ls k (aa ls at_+1)else[]:=rfl
noncomputable abbrev Co:E:=.cmp .lt (.var 2) (.bi "len" [(.var 0)])
noncomputable abbrev Cp:List S:=[
    (.asg (.var 3 true) (.new "LogicalLine" "LogicalLine.__init__" [(.var 2),(.attr (.sub (.var 0) (.var 2)) "size")])),
    (.whl Ck Cm),
    (.expr (.meth (.var 3) "LogicalLine" "put" "LogicalLine.put" [(.call "reflow_part" [(.var 0),(.var 2)])])),
    (.asg (.attr (.var 3) "is_whole") (.not (.attr (.sub (.var 0) (.var 2)) "is_wrapped"))),
    (.app (.var 1) (.mov 3) true),
    (.asg (.var 2 false) (.bin .add (.var 2) (.int 1)))]
theorem wB(d:Nat)(ls:List Ln)(hf:kM ls)(hl:ls.length≤100)(fd:List LL)(hfd:fd.length≤1000)(at_:Nat)(h:at_<ls.length):
    cJ GT (Ph (d+3)) Co Cp [.v (.lst (aq ls)),e8 fd,.v (.int (at_:Int)),.undef]=some (.inl [.v (.lst (aq ls)),e8 (fd++[be ls at_]),.v (.int ((aa ls at_+1:Nat):Int)),.undef]):=by
  have ha:=gv (ls:=ls) (i:=(at_:Int)) (by(exact Int.natCast_nonneg at_)) (by simp;exact List.getElem?_eq_getElem h)
  have hL:ls[at_]?=some ls[at_]:=List.getElem?_eq_getElem h
  have hi:=tz (d+2) at_ ls[at_].size
  have hw:=yL d ls hf hl (e8 fd) at_ h ls[at_].size
  have hlt:=cQ ls ls.length at_ h
  have hlt:aa ls at_<ls.length:=hlt
  have hm:aA ls at_≤100:=by unfold aa at hlt;(exact Nat.le_succ_of_le (by trivial))
  have hb:=gv (ls:=ls) (i:=(aa ls at_:Int)) (by(exact Int.natCast_nonneg (aa ls at_))) (by simp;exact List.getElem?_eq_getElem hlt)
  have hpf:=cH ls at_ hf (aA ls at_)
  have hpl:=gx ls (aa ls at_) hf
  have hpart:=f5 d ls (aa ls at_) hlt hf
  have hput:=oS (d+2) (LL.of at_ ls[at_].size (aW ls at_ (aA ls at_)) true) (ai ls (aa ls at_)) (by simp[LL.of];(exact Nat.le_trans (by trivial) (Nat.le_add_left _ _))) (by simp only[LL.of];lia)
  rw[LL.of_put]at hput
  have hput2:aW ls at_ (aA ls at_)++[ai ls (aa ls at_)]=ad ls at_:=(cG ls at_ _).symm
  rw[hput2]at hput
  have hbe:(fd.length<big)=True:=eq_true (by have:big=1048576:=rfl;(exact Nat.lt_succ_of_le (by trivial)))
  have hset:∀(x:Bool),my GT "is_whole" (.v (.bool x)) (LL.of at_ ls[at_].size (ad ls at_) true).own=some (LL.own (LL.of at_ ls[at_].size (ad ls at_) x)):=fun x=>by simp[LL.own,LL.of]
  have hlc:(at_:Int)<((aq ls).length:Int):=by rw[cF];exact Int.ofNat_lt.mpr h
  have hgrp:be ls at_=LL.of at_ ls[at_].size (ad ls at_) (!ls[aa ls at_].goes):=by
    simp[be,bz,bm,hL,List.getElem?_eq_getElem hlt]
  rw[hgrp]
  have e:((aa ls at_+1:Nat):Int)=(aa ls at_:Int)+1:=by(subst_vars;rfl)
  rw[e]
  change ex GT (Ph (d+3)) (.whl Ck Cm) _=some (.next,[.v (.lst (aq ls)),e8 fd,.v (.int ((aa ls at_:Nat):Int)),_])at hw
  have hi:Ph (d+2+1) "LogicalLine.__init__" [.obj "LogicalLine" [],.v (.int at_),.v (.str ls[at_].size)]=some (.v .none,[(LL.of at_ ls[at_].size [] true).own,.v (.int at_),.v (.str ls[at_].size)]):=hi
  generalize((aa ls at_:Nat):Int)=q at*
  have hpp:=oX d hpart hput (e8 fd)
  have hap:=Cn (d+3) fd (LL.of at_ ls[at_].size (ad ls at_) (!ls[aa ls at_].goes)) (of_eq_true hbe) (.v (.lst (aq ls))) (.v (.int q))
  clear hpart
  exact ci (aM [] (a2 (vb (dT hlc)) rfl:)) (by exact ora [.m _,.c _ (_::_),.s _ _,.s _ _,.m _,.s _ _] (a2 ha (a2 rfl (a2 rfl (a2 hw (a2 hpp (a2 hb (a2 hap (a2 rfl rfl))))))):))
theorem wC(d:Nat)(ls:List Ln)(hf:kM ls)(hl:ls.length≤100):∀k at_ (fd:List LL),ls.length≤at_+k→fd.length≤at_→
    ∃n a,n≤k∧Runs (cJ GT (Ph (d+3)) Co Cp) n [.v (.lst (aq ls)),e8 fd,.v (.int (at_:Int)),.undef] (.next,[.v (.lst (aq ls)),e8 (fd++ct ls k at_),.v (.int (a:Int)),.undef]):=by
  intro n_
  induction n_ with
  |zero=>exact fun at_ fd h _=>⟨0,at_,Nat.le_refl _,.done (by
      have hc:¬(at_:Int)<((aq ls).length:Int):=by rw[cF];lia
      rw[show ct ls 0 at_=[]from rfl,List.append_nil]
      exact aJ (aM [] (a2 (vb (dF hc)) rfl:)))⟩
  |succ k ih=>
    intro at_ fd h hfd
    by_cases hlt:at_<ls.length
    · have hge:at_≤aa ls at_:=by unfold aa;(exact Nat.le_add_right at_ (aA ls at_))
      obtain⟨n,a,hn,hr⟩:=ih (aa ls at_+1) (fd++[be ls at_]) (by(exact Nat.le_of_lt_succ (by trivial))) (by simp;(exact Nat.le_trans hfd hge))
      refine⟨n+1,a,by(exact Nat.add_le_add_right hn 1),.step (wB d ls hf hl fd (by lia) at_ hlt) ?_⟩
      rw[ct,if_pos hlt]
      simpa using hr
    · refine⟨0,at_,by(exact Nat.le_add_left 0 (k+1)),.done ?_⟩
      have hc:¬(at_:Int)<((aq ls).length:Int):=by rw[cF];simp[*]
      rw[me,if_neg hlt,List.append_nil]
      exact aJ (aM [] (a2 (vb (dF hc)) rfl:))
theorem nq(d:Nat)(ls:List Ln)(hf:kM ls)(hl:ls.length≤100):Ph (d+4) "logical_of" [.v (.lst (aq ls))]=some (e8 (ct ls ls.length 0),[.v (.lst (aq ls))]):=by
  obtain⟨n,a,hn,hr⟩:=wC d ls hf hl ls.length 0 [] (by(exact Nat.le_add_left ls.length 0)) (by simp)
  have hw:=b6 hr (by have:big=1048576:=rfl;(exact Nat.le_succ_of_le (by trivial)))
  simp only[List.nil_append]at hw
  have hw:ex GT (Ph (d+3)) (.whl Co Cp) [.v (.lst (aq ls)),.lst [],.v (.int 0),.undef]=_:=hw
  have hn0:bF []=.lst []:=rfl
  have hn1:M.v (.int 0)=.v (.int 0):=rfl
  generalize ct ls ls.length 0=LG at*
  cases LG with
  |nil=>exact aD fY rfl [.n _,.n _,.s _ _] (a2 hn0 (a2 hn1 (a2 hw (a2 rfl rfl))):)
  |cons=>exact aD fY rfl [.n _,.n _,.s _ _] (a2 hn0 (a2 hn1 (a2 hw (a2 rfl rfl))):)
end Mine.Internal
end
section
set_option genInjectivity true
namespace Mine.Internal
noncomputable def gA(s:List Cell):Prop:=(∃c,s=[c]∧c.w=1)∨(∃c h,s=[c,h]∧c.w=2∧h.w=0)
noncomputable def WF(cs:List Cell):Prop:=∃ss:List (List Cell),cs=ss.flatten∧∀s∈ss,gA s
noncomputable def parse:List Cell→List (List Cell)
  |[]=>[]
  |[c]=>[[c]]
  |c::h::r=>if c.w=2 then[c,h]::parse r else[c]::parse (h::r)
theorem sd(c e:Cell)(r:List Cell):parse (c::e::r)=if c.w=2 then[c,e]::parse r else[c]::parse (e::r):=rfl
theorem kN:∀(ss:List (List Cell)),(∀s∈ss,gA s)→parse ss.flatten=ss
  |[],_=>rfl
  |s::r,h=>by
    have ih:=kN r (fun s hs=>h s (List.mem_cons_of_mem _ hs))
    rcases h s (List.mem_cons_self ..)with⟨c,rfl,hc⟩|⟨c,e,rfl,hc,he⟩
    · rw[List.flatten_cons,List.singleton_append]
      cases hr:r.flatten with
      |nil=>
        rw[hr]at ih
        rw[←ih];rfl
      |cons e q=>
        rw[hr]at ih
        rw[sd,if_neg (by(simp[*])),ih]
    · rw[List.flatten_cons]
      show parse (c::e::r.flatten)=_
      rw[sd,if_pos hc,ih]
theorem WF.parse{cs:List Cell}(h:WF cs):(Mine.Internal.parse cs).flatten=cs∧∀s∈Mine.Internal.parse cs,gA s:=by
  obtain⟨ss,rfl,hs⟩:=h
  rw[kN ss hs]
  exact⟨rfl,hs⟩
theorem WF.nil:WF []:=⟨[],rfl,fun _ h=>nomatch h⟩
theorem WF.append{a b:List Cell}(ha:WF a)(hb:WF b):WF (a++b):=by
  obtain⟨x,rfl,hx⟩:=ha
  obtain⟨y,rfl,hy⟩:=hb
  exact⟨x++y,by simp,fun s hs=>(List.mem_append.mp hs).elim (hx s) (hy s)⟩
theorem WF.flatten{l:List (List Cell)}(h:∀a∈l,WF a):WF l.flatten:=by
  induction l with
  |nil=>exact WF.nil
  |cons a r ih=>exact(h a (List.mem_cons_self ..)).append (ih fun b hb=>h b (List.mem_cons_of_mem _ hb))
theorem WF.one{c:Cell}(h:c.w=1):WF [c]:=⟨[[c]],rfl,fun s hs=>.inl ⟨c,by simpa using hs,h⟩⟩
theorem WF.rep{c:Cell}(h:c.w=1)(n:Nat):WF (List.replicate n c):=by
  induction n with
  |zero=>exact WF.nil
  |succ n ih=>exact(WF.one h).append ih
theorem WF.two{c e:Cell}(h:c.w=2)(he:e.w=0):WF [c,e]:=⟨[[c,e]],rfl,fun s hs=>.inr ⟨c,e,by simpa using hs,h,he⟩⟩
theorem WF.pop{a:List Cell}{c:Cell}(h:WF (a++[c]))(hc:c.w=1):WF a:=by
  obtain⟨ss,e,hs⟩:=h
  rcases List.eq_nil_or_concat ss with rfl|⟨r,s,rfl⟩
  · simp at e
  · simp only[List.concat_eq_append]at e hs
    rcases hs s (by simp)with⟨c',rfl,h'⟩|⟨c',e',rfl,h',h''⟩
    · rw[List.flatten_append]at e
      have:a=r.flatten:=by
        have:=List.append_inj' e rfl
        exact this.1
      exact⟨r,this,fun s hs'=>hs s (by simp[hs'])⟩
    · rw[List.flatten_append]at e
      have:a++[c]=(r.flatten++[c'])++[e']:=by simpa using e
      have:=List.append_inj' this rfl
      have h2:=this.2
      simp at h2
      subst h2
      lia
theorem WF.first{a:List Cell}(h:WF a):∀c,a[0]?=some c→c.w≠0:=by
  obtain⟨ss,rfl,hs⟩:=h
  cases ss with
  |nil=>simp
  |cons s r=>
    rcases hs s (List.mem_cons_self ..)with⟨c,rfl,h⟩|⟨c,e,rfl,h,_⟩<;>(intro q hq;simp at hq;subst hq;(simp[*]))
theorem WF.last{a:List Cell}(h:WF a):∀c,a.getLast?=some c→c.w≠2:=by
  obtain⟨ss,rfl,hs⟩:=h
  rcases List.eq_nil_or_concat ss with rfl|⟨r,s,rfl⟩
  · simp
  · simp only[List.concat_eq_append]at hs ⊢
    rcases hs s (by simp)with⟨c,rfl,h⟩|⟨c,e,rfl,h,_⟩<;>(intro q hq;simp at hq;subst hq;(simp[*]))
theorem WF.fix{a:List Cell}(h:WF a):aZ a=a:=by
  unfold aZ
  split
  · rename_i c hc
    rw[if_neg (h.last c hc)]
  · rfl
structure Lay where
  done:List (List Cell)
  cur:List Cell
  places:List (Nat×Nat)
noncomputable def Lay.start:Lay:=⟨[],[],[]⟩
noncomputable def am(cols:Nat)(s:List Cell):List Cell:=if s.length≤cols then s else s.head?.toList.map fun c=>bj c.p
noncomputable def Lay.room(cols:Nat)(L:Lay)(n:Nat):Lay:=if cols<L.cur.length+n then{ L with done:=L.done++[L.cur],cur:=[] }else L
noncomputable def Lay.put(L:Lay)(sh:List Cell)(many:Nat):Lay:={ L with cur:=L.cur++sh,places:=L.places++(List.range many).map fun k=>(L.done.length,L.cur.length+min k (sh.length-1)) }
noncomputable def Lay.sign(cols:Nat)(L:Lay)(s:List Cell):Lay:=(L.room cols (am cols s).length).put (am cols s) s.length
noncomputable def lay(cols:Nat)(ss:List (List Cell)):Lay:=ss.foldl (Lay.sign cols) Lay.start
theorem kO(cols:Nat)(ss:List (List Cell))(k:Nat)(h:k<ss.length):lay cols (ss.take (k+1))=(lay cols (ss.take k)).sign cols ss[k]:=by
  unfold lay
  rw[List.take_add_one,List.getElem?_eq_getElem h,List.foldl_append]
  rfl
theorem iR{cols:Nat}{s:List Cell}(h:gA s):1≤(am cols s).length∧(am cols s).length≤2∧(0<cols→(am cols s).length≤cols):=by
  unfold am
  rcases h with⟨c,rfl,_⟩|⟨c,e,rfl,_⟩<;>(split<;>simp_all<;>(exact fun a=>Nat.one_le_of_lt a))
structure Lay.Ok (cols:Nat) (L:Lay) (n:Nat):Prop where
  cur:L.cur.length≤cols
  done:∀p∈L.done,p.length≤cols∧cols≤p.length+1
  many:L.done.length≤n
  len:L.places.length=n
  place:∀p∈L.places,p.2+1≤cols
theorem Lay.Ok.sign{cols:Nat}{L:Lay}{n:Nat}(o:L.Ok cols n)(hc:0<cols){s:List Cell}(h:gA s):(L.sign cols s).Ok cols (n+s.length):=by
  have hl:=iR (cols:=cols) h
  have hs:1≤s.length:=by rcases h with⟨c,rfl,_⟩|⟨c,e,rfl,_⟩<;>simp
  have hsh:=hl.2.2 hc
  unfold Lay.sign Lay.room
  split
  · refine⟨by simp[Lay.put];(assumption),?_,?_,by simp[Lay.put,o.len],?_⟩
    · intro p hp
      simp[Lay.put]at hp
      rcases hp with hp|rfl
      · exact o.done p hp
      · exact⟨o.cur,by lia⟩
    · have:=o.many;simp[Lay.put];(exact Nat.add_le_add this hs)
    · intro p hp
      simp[Lay.put]at hp
      rcases hp with hp|⟨a,_,rfl⟩
      · exact o.place p hp
      · simp only;(exact Nat.lt_of_le_of_lt (Nat.min_le_right _ _) (by trivial))
  · refine⟨by simp[Lay.put];lia,o.done,by have:=o.many;simp[Lay.put];(exact Nat.le_add_right_of_le this),by simp[Lay.put,o.len],?_⟩
    intro p hp
    simp[Lay.put]at hp
    rcases hp with hp|⟨a,_,rfl⟩
    · exact o.place p hp
    · simp only;(exact Nat.succ_le_of_lt (by first|assumption|omega))
theorem nu(cols:Nat)(hc:0<cols)(ss:List (List Cell))(h:∀s∈ss,gA s):∀k,k≤ss.length→(lay cols (ss.take k)).Ok cols (ss.take k).flatten.length
  |0,_=>by
    show Lay.Ok cols ⟨[],[],[]⟩ 0
    exact⟨Nat.zero_le _,(fun _ h=>nomatch h),Nat.le_refl _,rfl,(fun _ h=>nomatch h)⟩
  |k+1,hk=>by
    have:=(nu cols hc ss h k (by(exact Nat.le_of_succ_le hk))).sign hc (h ss[k] (List.getElem_mem _))
    rw[kO cols ss k (by(assumption))]
    rw[show(ss.take (k+1)).flatten.length=(ss.take k).flatten.length+ss[k].length by rw[List.take_add_one,List.getElem?_eq_getElem (by(solve_by_elim (maxDepth:=3) [Nat.lt_of_lt_of_le,Nat.le_trans,Nat.add_le_add,Nat.le_add_right,Nat.le_add_left,Nat.sub_le,Nat.min_le_left,Nat.min_le_right,Nat.succ_le_of_lt,Nat.lt_of_succ_le]):k<ss.length),List.flatten_append,List.length_append];simp]
    exact this
theorem se(cols:Nat)(hc:0<cols)(ss:List (List Cell))(h:∀s∈ss,gA s):(lay cols ss).Ok cols ss.flatten.length:=by
  have:=nu cols hc ss h ss.length (Nat.le_refl _)
  rwa[List.take_length]at this
end Mine.Internal
end
section
set_option genInjectivity true
namespace Mine.Internal
theorem iS{f:M→List M→Option (Fl×List M)}(P:Nat→List M→Prop):∀(xs:List M) (n:Nat),(∀k (hk:k<xs.length) σ,P (n+k) σ→∃σ',f xs[k] σ=some (.next,σ')∧P (n+k+1) σ')→∀σ,P n σ→∃σ',cw f xs σ=some (.next,σ')∧P (n+xs.length) σ'
  |[],n,_,σ,h0=>⟨σ,rfl,h0⟩
  |x::r,n,h,σ,h0=>by
    obtain⟨σ₁,e,h1⟩:=h 0 (by simp) σ h0
    simp only[List.getElem_cons_zero]at e
    obtain⟨σ₂,e2,h2⟩:=iS P r (n+1) (fun k hk σ hσ=>by
      have:=h (k+1) (by simpa using hk) σ (by rwa[show n+(k+1)=n+1+k by(exact Eq.symm (Nat.succ_add_eq_add_succ n k))])
      simp only[List.getElem_cons_succ]at this
      rwa[show n+1+k+1=n+(k+1)+1 by(exact Eq.symm (Nat.add_right_comm n (k+1) 1))]) σ₁ h1
    refine⟨σ₂,?_,by rwa[show n+(x::r).length=n+1+r.length by simp;(exact Eq.symm (Nat.succ_add_eq_add_succ n r.length))]⟩
    simp only[cM,e,Option.bind_some]
    exact e2
theorem sf{α β:Type}{f:α→Option (α ⊕ β)}(P:Nat→α→Prop){b:β→Prop}:∀(n m:Nat),(∀k,k<n→∀σ,P (m+k) σ→∃σ',f σ=some (.inl σ')∧P (m+k+1) σ')→(∀σ,P (m+n) σ→∃y,f σ=some (.inr y)∧b y)→∀σ,P m σ→∃y,Runs f n σ y∧b y
  |0,_,_,he,σ,h=>by
    obtain⟨y,e,hy⟩:=he σ h
    exact⟨y,.done e,hy⟩
  |n+1,m,h,he,σ,h0=>by
    obtain⟨σ₁,e,h1⟩:=h 0 (by(exact Nat.zero_lt_succ n)) σ h0
    obtain⟨y,hr,hy⟩:=sf P n (m+1) (fun k hk σ hσ=>by
      have:=h (k+1) (by(exact Nat.add_lt_add_right hk 1)) σ (by rwa[show m+(k+1)=m+1+k by(exact Eq.symm (Nat.succ_add_eq_add_succ m k))])
      rwa[show m+1+k+1=m+(k+1)+1 by(exact Eq.symm (Nat.add_right_comm m (k+1) 1))]) (fun σ hσ=>he σ (by rwa[show m+(n+1)=m+1+n by(exact Eq.symm (Nat.succ_add_eq_add_succ m n))])) σ₁ h1
    exact⟨y,.step e hr,hy⟩
theorem sg{G:Tab}{Φ:Phi}{c:E}{b:List S}{σ:List M}(P:Nat→List M→Prop)(Q:Fl×List M→Prop)(n:Nat)(hn:n<big)(h0:P 0 σ)(h:∀k,k<n→∀σ,P k σ→∃σ',cJ G Φ c b σ=some (.inl σ')∧P (k+1) σ')(he:∀σ,P n σ→∃y,cJ G Φ c b σ=some (.inr y)∧Q y):∃y,ex G Φ (.whl c b) σ=some y∧Q y:=by
  obtain⟨y,hr,hy⟩:=sf P n 0 (fun k hk σ hσ=>by simpa using h k hk σ (by simpa using hσ)) (fun σ hσ=>he σ (by simpa using hσ)) σ h0
  exact⟨y,b6 (fl:=y.1) (σ':=y.2) hr hn,hy⟩
theorem yM{G:Tab}{Φ:Phi}{c:E}{b:List S}{σ σ₁ σ':List M}{m:M}(hc:ev G Φ c σ=some (.v (.bool true),σ₁))(hb:exs G Φ b σ₁=some (.ret m,σ')):cJ G Φ c b σ=some (.inr (.ret m,σ')):=by
  exact bd hc (bd (rfl:M.bool? (.v (.bool true))=some true) (ifT rfl (md hb rfl)))
theorem kP{G:Tab}{Φ:Phi}{p:P}{b:List S}{x:M}{σ σ₁ σ':List M}{fl:Fl}(hc:iY p x σ=some σ₁)(hb:exs G Φ b σ₁=some (fl,σ')):hH G Φ p b x σ=some (fl,σ'):=by
  exact bd hc hb
noncomputable def rpC(l:List (List Cell)):M:=match l with
  |[]=>.lst []
  |_=>.lstM (l.map fun c=>.lst (enc c))
theorem yN(l:List (List Cell))(x:List Cell)(h:l.length<big):fF (.lst (enc x)) (rpC l)=some (rpC (l++[x])):=by
  cases l with
  |nil=>rfl
  |cons a r=>
    show(if((a::r).map fun c=>M.lst (enc c)).length<big then some _ else none)=_
    rw[if_pos (by simpa using h)]
    simp[rpC]
noncomputable def ak(l:List (Nat×Nat)):List V:=l.map fun p=>.tup [.int p.1,.int p.2]
@[simp] theorem CU(l:List (Nat×Nat)):(ak l).length=l.length:=by simp[ak]
noncomputable def pad(cols:Nat)(p:List Cell):List Cell:=p++List.replicate (cols-p.length) ao
theorem oY{cols:Nat}{p:List Cell}(h:cols≤p.length):pad cols p=p:=by simp[pad,Nat.sub_eq_zero_of_le h]
theorem yO{cols:Nat}{p:List Cell}(h:cols=p.length+1):pad cols p=p++[ao]:=by subst h;simp[pad]
theorem si(a s b:List Cell)(n:Nat)(hn:n=s.length):cut (enc (a++s++b)) (cT (some (a.length:Int)) (a++s++b).length) (cU (some ((a.length:Int)+(n:Int))) (a++s++b).length)=enc s:=by
  subst hn
  have e:(a.length:Int)+(s.length:Int)=((a.length+s.length:Nat):Int):=by(exact Int.ofNat_add_ofNat a.length s.length)
  rw[e]
  simp only[cut,cT,cU,iP]
  rw[Nat.min_eq_left (by simp),Nat.min_eq_left (by simp),←hZ]
  rw[show a.length+s.length=(a++s).length by simp,List.take_append_of_le_length (Nat.le_refl _),List.take_length]
  simp[enc]
noncomputable abbrev cA:List S:=[
    (.asg (.var 6 false) (.sub (.var 0) (.var 5))),
    (.asg (.var 7 false) (.ite (.and [(.cmp .eq (.sub (.var 6) (.int 1)) (.int 2)),(.cmp .lt (.bin .add (.var 5) (.int 1)) (.bi "len" [(.var 0)])),(.cmp .eq (.sub (.sub (.var 0) (.bin .add (.var 5) (.int 1))) (.int 1)) (.int 0))]) (.int 2) (.int 1))),
    (.asg (.var 8 false) (.slc (.var 0) (some (.var 5)) (some (.bin .add (.var 5) (.var 7))))),
    (.ite (.or [(.cmp .gt (.var 7) (.var 1)),(.and [(.cmp .eq (.var 7) (.int 1)),(.cmp .ne (.sub (.var 6) (.int 1)) (.int 1))])]) [
      (.asg (.var 8 false) (.lst [(.call "blank_cell" [(.sub (.var 6) (.int 2))])]))] [])]
theorem D9(d:Nat)(cols:Nat)(hc:0<cols){a s b cs:List Cell}(hcs:cs=a++s++b){t:Nat}(ht:t=a.length)(hs:gA s)(P Q R x y z w:M):
    ∃q,exs GT (Ph (d+2)) cA [.v (.lst (enc cs)),.v (.int cols),P,Q,R,.v (.int (t:Int)),x,y,z,w]=some (.next,[.v (.lst (enc cs)),.v (.int cols),P,Q,R,.v (.int (t:Int)),q,.v (.int s.length),.v (.lst (enc (am cols s))),w]):=by
  rcases hs with⟨c,rfl,h1⟩|⟨c,e,rfl,h2,h0⟩
  · have hi:item (.lst (enc cs)) (.v (.int (t:Int)))=some (.v c.v):=b5 (by(exact Int.natCast_nonneg t)) (by rw[hcs,ht];simp)
    have hm:=si a [c] b 1 rfl
    rw[←hcs,←ht]at hm
    simp only[Int.natCast_one]at hm
    have hsh:am cols [c]=[c]:=by unfold am;rw[if_pos (by simp;(assumption))]
    have hn:¬(cols:Int)<1:=by lia
    refine⟨.v c.v,?_⟩
    rw[hsh]
    have e1:decide (c.w=2)=false:=decide_eq_false (by rw[h1];decide)
    have e2:M.v (.lst (cut (enc cs) (cT (some (t:Int)) (enc cs).length) (cU (some ((t:Int)+1)) (enc cs).length)))=.v (.lst [c.v]):=by rw[ab,hm];rfl
    have e3:(!decide (c.w=1))=false:=congrArg (!·) (decide_eq_true h1)
    exact ora [.m _,.b false,.b false,.k,.n _,.b false,.b true,.b false] (a2 hi (a2 e1 (a2 rfl (a2 e2 (a2 (decide_eq_false hn) (a2 rfl (a2 e3 (a2 rfl rfl))))))):)
  · have hi:item (.lst (enc cs)) (.v (.int (t:Int)))=some (.v c.v):=b5 (by(solve_by_elim (maxDepth:=3) [Nat.lt_of_lt_of_le,Nat.le_trans,Nat.add_le_add,Nat.le_add_right,Nat.le_add_left,Nat.sub_le,Nat.min_le_left,Nat.min_le_right,Nat.succ_le_of_lt,Nat.lt_of_succ_le])) (by rw[hcs,ht];simp)
    have hj:item (.lst (enc cs)) (.v (.int ((t:Int)+1)))=some (.v e.v):=b5 (by(exact Int.zero_le_ofNat (t+1))) (by rw[hcs,ht,show((a.length:Int)+1).toNat=a.length+1 by(exact Int.toNat_natCast_add_one)];simp)
    have hlen:(t:Int)+1<(cs.length:Int):=by rw[hcs,ht];simp;(exact Int.compare_eq_gt.mp rfl)
    have hm:=si a [c,e] b 2 rfl
    rw[←hcs,←ht]at hm
    simp only[show((2:Nat):Int)=2 from rfl]at hm
    have hb:=cP d c.p
    have e1:decide (c.w=2)=true:=decide_eq_true h2
    have e2:decide ((t:Int)+1<((enc cs).length:Int))=true:=decide_eq_true (by rw[ab];exact hlen)
    have e3:decide (e.w=0)=true:=decide_eq_true h0
    have e4:M.v (.lst (cut (enc cs) (cT (some (t:Int)) (enc cs).length) (cU (some ((t:Int)+2)) (enc cs).length)))=.v (.lst [c.v,e.v]):=by rw[ab,hm];rfl
    by_cases hw:(cols:Int)<2
    · have hsh:am cols [c,e]=[bj c.p]:=by unfold am;rw[if_neg (by simp;(exact Int.ofNat_lt.mp hw))];rfl
      refine⟨.v c.v,?_⟩
      rw[hsh]
      exact ora [.m _,.b true,.b true,.m _,.b true,.k,.n _,.b true,.b true,.c _ _] (a2 hi (a2 e1 (a2 e2 (a2 hj (a2 e3 (a2 e4 (a2 (decide_eq_true hw) (a2 rfl (a2 hb (a2 rfl rfl))))))))):)
    · have hsh:am cols [c,e]=[c,e]:=by unfold am;rw[if_pos (by simp;(exact Nat.succ_le_of_lt (by first|assumption|omega)))]
      refine⟨.v c.v,?_⟩
      rw[hsh]
      exact ora [.m _,.b true,.b true,.m _,.b true,.k,.n _,.b false,.b false,.b false] (a2 hi (a2 e1 (a2 e2 (a2 hj (a2 e3 (a2 e4 (a2 (decide_eq_false hw) (a2 rfl (a2 rfl (a2 rfl rfl))))))))):)
end Mine.Internal
end
section
set_option genInjectivity true
namespace Mine.Internal
noncomputable abbrev cB:S:=.ite (.cmp .gt (.bin .add (.bi "len" [(.var 3)]) (.bi "len" [(.var 8)])) (.var 1)) [
      (.ite (.cmp .lt (.bi "len" [(.var 3)]) (.var 1)) [
        (.app (.var 3) (.call "blank_cell" [(.glob "PLAIN")]) false)] []),
      (.app (.var 2) (.mov 3) true),
      (.asg (.var 3 true) (.lst []))] []
noncomputable abbrev cC:S:=.for_ (.var 9) (.rng Option.none (.var 7)) [
      (.app (.var 4) (.tup [(.bi "len" [(.var 2)]),(.bin .add (.bi "len" [(.var 3)]) (.bi "min" [(.var 9),(.bin .sub (.bi "len" [(.var 8)]) (.int 1))]))]) false)]
theorem aE:big=1048576:=rfl
theorem f6(d:Nat):Ph (d+2) "blank_cell" [.v bK]=some (.v ao.v,[.v bK]):=cP d bN
theorem wD(d:Nat)(D:List (List Cell))(c:List Cell)(hD:D.length<big)(C B R t x y s w:M):ex GT (Ph d) (.app (.var 2) (.mov 3) true) [C,B,rpC D,.lst (enc c),R,t,x,y,s,w]=some (.next,[C,B,rpC (D++[c]),.undef,R,t,x,y,s,w]):=by
  have h:=yN D c hD
  cases D with
  |nil=>exact jA (aM [] (a2 rfl rfl:)) rfl (md h rfl)
  |cons a r=>exact jA (aM [] (a2 rfl rfl:)) rfl (md h rfl)
theorem D_(d:Nat)(cols:Nat)(hcols:cols≤1000){L:Lay}{n m:Nat}(o:L.Ok cols n)(hn:n≤100000)(hm2:m≤2)(C R t x y w:M){sh:List Cell}(hsh:sh.length=m):
    ex GT (Ph (d+2)) cB [C,.v (.int cols),rpC (L.done.map (pad cols)),.lst (enc L.cur),R,t,x,y,.v (.lst (enc sh)),w]=some (.next,[C,.v (.int cols),rpC ((L.room cols m).done.map (pad cols)),.lst (enc (L.room cols m).cur),R,t,x,y,.v (.lst (enc sh)),w]):=by
  unfold Lay.room
  have hb:=aE
  have hmany:=o.many
  by_cases h:cols<L.cur.length+m
  · rw[if_pos h]
    have hc:(cols:Int)<((enc L.cur).length:Int)+((enc sh).length:Int):=by rw[ab,ab];lia
    have hq:M.lst (enc [])=.lst []:=rfl
    by_cases h2:L.cur.length<cols
    · have hc2:((enc L.cur).length:Int)<(cols:Int):=by rw[ab];exact Int.ofNat_lt.mpr h2
      have hbk:=f6 d
      have hpad:pad cols L.cur=L.cur++[ao]:=yO (by lia)
      have hbg:(enc L.cur++[ao.v]).length≤big:=by simp;have:=o.cur;(exact Nat.add_le_add_right (by trivial) _)
      have hn:M.lst (enc L.cur++[ao.v])=.lst (enc (L.cur++[ao])):=ml (by rw[aN];rfl)
      have hap:=wD (d+2) (L.done.map (pad cols)) (L.cur++[ao]) (by simp;(exact Nat.le_succ_of_le (by first|assumption|omega))) C (.v (.int cols)) R t x y (.v (.lst (enc sh))) w
      rw[←hpad,←List.map_singleton,←List.map_append]at hap
      rw[←hpad]at hn
      exact aI [.b true,.b true,.c _ _,.n _,.s _ _] (a2 (decide_eq_true hc) (a2 (decide_eq_true hc2) (a2 hbk (a2 hbg (a2 hn (a2 hap (a2 rfl rfl)))))):)
    · have hc2:¬((enc L.cur).length:Int)<(cols:Int):=by rw[ab];simp[*]
      have hpad:pad cols L.cur=L.cur:=oY (by(exact Nat.le_of_not_lt h2))
      have hap:=wD (d+2) (L.done.map (pad cols)) L.cur (by simp;lia) C (.v (.int cols)) R t x y (.v (.lst (enc sh))) w
      have hq2:rpC (L.done.map (pad cols)++[L.cur])=rpC ((L.done++[L.cur]).map (pad cols)):=by rw[List.map_append,List.map_singleton,hpad]
      rw[hq2]at hap
      exact aI [.b true,.b false,.s _ _] (a2 (decide_eq_true hc) (a2 (decide_eq_false hc2) (a2 hap (a2 rfl rfl))):)
  · rw[if_neg h]
    have hc:¬(cols:Int)<((enc L.cur).length:Int)+((enc sh).length:Int):=by rw[ab,ab];lia
    exact aI [.b false] (a2 (decide_eq_false hc) (a2 rfl rfl):)
end Mine.Internal
end
section
set_option genInjectivity true
namespace Mine.Internal
theorem kQ(l:List (Nat×Nat))(p:Nat×Nat):ak (l++[p])=ak l++[.tup [.int p.1,.int p.2]]:=by simp[ak]
noncomputable def erZ(a:Option Int)(σ:List M)(y:Int):Option (List M×List M):=if(y-a.getD 0).toNat≤big∧(a.getD 0).natAbs≤1099511627776∧y.natAbs≤1099511627776 then some ((bt (a.getD 0) y).map .v,σ)else none
noncomputable def erY(a:Option Int)(q:M×List M):Option (List M×List M):=q.1.int?.bind (erZ a q.2)
noncomputable def erX(G:Tab)(Φ:Phi)(b:E)(p:Option Int×List M):Option (List M×List M):=(ev G Φ b p.2).bind (erY p.1)
@[simp] theorem Cq(G:Tab)(Φ:Phi)(st:Bool)(a:Option E)(b:E)(σ:List M):evS G Φ st (.rng a b) σ=(evO G Φ a σ).bind (erX G Φ b):=rfl
noncomputable def nv(st:Bool)(e:E)(m:M)(σ:List M):Option (List M×List M):=match m with
    |.lstM l=>if e.temp then some (l,σ)else none
    |m=>if !st||e.temp||m.isV then m.list?.map fun l=>(l.map .v,σ)else none
@[simp] theorem Ea(st:Bool)(e:E)(l:List V)(σ:List M):nv st e (.lst l) σ=if !st||e.temp then some (l.map .v,σ)else none:=by simp[nv]
@[simp] theorem CV(st:Bool)(e:E)(l:List M)(σ:List M):nv st e (.lstM l) σ=if e.temp then some (l,σ)else none:=rfl
theorem jD(n:Nat):bt 0 (n:Int)=(List.range n).map fun(k:Nat)=>V.int (k:Int):=by simp[bt]
theorem kR{G:Tab}{Φ:Phi}{b:E}{σ:List M}{n:Nat}{z:Bool}(hb:ev G Φ b σ=some (.v (.int n),σ))(h:n≤big):evS G Φ z (.rng none b) σ=some ((bt 0 n).map .v,σ):=by
  have hbig:big=1048576:=rfl
  rw[Cq]
  show erX G Φ b (none,σ)=_
  unfold erX
  rw[hb]
  exact if_pos ⟨by show((n:Int)-0).toNat≤big;lia,by show(0:Int).natAbs≤1099511627776;decide,by show(n:Int).natAbs≤_;lia⟩
noncomputable def oZ(r c m many:Nat):List (Nat×Nat):=(List.range many).map fun k=>(r,c+min k (m-1))
theorem Eb(d:Nat)(many:Nat)(hmany:many=1∨many=2)(A B t x w:M)(D:List (List Cell))(cur:List Cell)(pl:List (Nat×Nat))(sh:List Cell)(hpl:pl.length≤200000)(h1:1≤sh.length):
    ∃q,ex GT (Ph d) cC [A,B,rpC D,.lst (enc cur),.lst (ak pl),t,x,.v (.int many),.v (.lst (enc sh)),w]=some (.next,[A,B,rpC D,.lst (enc cur),.lst (ak (pl++oZ D.length cur.length sh.length many)),t,x,.v (.int many),.v (.lst (enc sh)),q]):=by
  have hb:=aE
  have e:((sh.length:Int)-1)=((sh.length-1:Nat):Int):=by(exact jF (by trivial))
  have s1:∀(l:List (Nat×Nat)) (k:Nat) (n:Int),n=D.length→l.length≤1000000→bG (ak l++[.tup [.int n,.int (((enc cur).length:Int)+min (k:Int) (((enc sh).length:Int)-1))]])=some (ak (l++[(D.length,cur.length+min k (sh.length-1))])):=by
    intro l k n hn hl
    rw[kQ,ab,ab,hn]
    have:((cur.length:Int)+min (k:Int) ((sh.length:Int)-1))=((cur.length+min k (sh.length-1):Nat):Int):=by(exact zd (by trivial))
    rw[this]
    exact e7 (by simp;(exact Nat.add_le_add_right (by trivial) _))
  have b9:∀(l:List (Nat×Nat)) (k:Nat) (y:M),l.length≤1000000→hH GT (Ph d) (.var 9) [(.app (.var 4) (.tup [(.bi "len" [(.var 2)]),(.bin .add (.bi "len" [(.var 3)]) (.bi "min" [(.var 9),(.bin .sub (.bi "len" [(.var 8)]) (.int 1))]))]) false)] (.v (.int k)) [A,B,rpC D,.lst (enc cur),.lst (ak l),t,x,.v (.int many),.v (.lst (enc sh)),y]=some (.next,[A,B,rpC D,.lst (enc cur),.lst (ak (l++[(D.length,cur.length+min k (sh.length-1))])),t,x,.v (.int many),.v (.lst (enc sh)),.v (.int k)]):=by
    intro l k y hl
    refine kP rfl ?_
    cases D with
    |nil=>
      obtain⟨t1,t2⟩:=hY (s1 l k _ rfl hl)
      have t3:=congrArg M.lst t2
      exact ora [.n _] (a2 t1 (a2 t3 (a2 rfl rfl)):)
    |cons a r=>
      obtain⟨t1,t2⟩:=hY (s1 l k ((((a::r).map fun c=>M.lst (enc c)).length:Nat):Int) (congrArg _ (List.length_map ..)) hl)
      have t3:=congrArg M.lst t2
      exact ora [.n _] (a2 t1 (a2 t3 (a2 rfl rfl)):)
  have hm:many≤big:=by rcases hmany with rfl|rfl<;>decide
  have hev:=kR (G:=GT) (Φ:=Ph d) (z:=true) (b:=.var 7) (σ:=[A,B,rpC D,.lst (enc cur),.lst (ak pl),t,x,.v (.int many),.v (.lst (enc sh)),w]) rfl hm
  have h0:=b9 pl 0 w (by(exact Nat.le_trans (by trivial) (Nat.le_add_left _ _)))
  have h1:=b9 (pl++[(D.length,cur.length+min 0 (sh.length-1))]) 1 (.v (.int ((0:Nat):Int))) (by simp;(exact Nat.le_trans (by trivial) (Nat.le_add_left _ _)))
  rcases hmany with rfl|rfl
  · refine⟨.v (.int 0),?_⟩
    rw[l9,hev,Option.bind_some]
    show cw _ [.v (.int 0)] _=_
    rw[cM]
    rw[show hH GT (Ph d) (.var 9) _ (M.v (.int 0)) _=_ from h0]
    rfl
  · refine⟨.v (.int 1),?_⟩
    rw[l9,hev,Option.bind_some]
    show cw _ [.v (.int 0),.v (.int 1)] _=_
    rw[cM]
    rw[show hH GT (Ph d) (.var 9) _ (M.v (.int 0)) _=_ from h0]
    show cw _ [.v (.int 1)] _=_
    rw[cM]
    rw[show hH GT (Ph d) (.var 9) _ (M.v (.int 1)) _=_ from h1]
    rw[List.append_assoc]
    rfl
end Mine.Internal
end
section
set_option genInjectivity true
namespace Mine.Internal
noncomputable def o0:List S:=cA++[cB,cC,(.ext (.var 3) (.var 8)),(.asg (.var 5 false) (.bin .add (.var 5) (.var 7)))]
noncomputable def wE:E:=.cmp .lt (.var 5) (.bi "len" [(.var 0)])
noncomputable def av(cols:Nat)(L:Lay):List (List Cell):=L.done.map (pad cols)++[L.cur]
theorem wF(D:List (List Cell))(x:List Cell):rpC (D++[x])=.lstM ((D++[x]).map fun c=>.lst (enc c)):=by cases D<;>rfl
noncomputable def sj(cs:List Cell)(cols:Nat)(L:Lay)(t:Nat)(σ:List M):Prop:=∃x y z w,σ=[.v (.lst (enc cs)),.v (.int cols),rpC (L.done.map (pad cols)),.lst (enc L.cur),.lst (ak L.places),.v (.int (t:Int)),x,y,z,w]
theorem sk{ss:List (List Cell)}{k:Nat}(h:k<ss.length):ss.flatten=(ss.take k).flatten++ss[k]++(ss.drop (k+1)).flatten:=by
  have e:ss=ss.take k++(ss[k]::ss.drop (k+1)):=by rw[←List.drop_eq_getElem_cons h,List.take_append_drop]
  have:=congrArg List.flatten e
  rw[List.flatten_append,List.flatten_cons]at this
  rw[List.append_assoc];exact this
theorem e_{ss:List (List Cell)}{k:Nat}(h:k<ss.length):(ss.take (k+1)).flatten.length=(ss.take k).flatten.length+ss[k].length:=by
  rw[List.take_add_one,List.getElem?_eq_getElem h,List.flatten_append,List.length_append];simp
theorem ie{s:List Cell}(h:gA s):s.length=1∨s.length=2:=by rcases h with⟨c,rfl,_⟩|⟨c,e,rfl,_⟩<;>simp
theorem wG(d:Nat)(cols:Nat)(hc:0<cols)(hcols:cols≤1000)(ss:List (List Cell))(hs:∀s∈ss,gA s)(hlen:ss.flatten.length≤100000)(k:Nat)(hk:k<ss.length)(σ:List M)
    (h:sj ss.flatten cols (lay cols (ss.take k)) (ss.take k).flatten.length σ):
    ∃σ',cJ GT (Ph (d+2)) wE o0 σ=some (.inl σ')∧sj ss.flatten cols (lay cols (ss.take (k+1))) (ss.take (k+1)).flatten.length σ':=by
  obtain⟨x,y,z,w,rfl⟩:=h
  have hsk:=hs ss[k] (List.getElem_mem hk)
  have hfl:=sk hk
  have hfn:=e_ hk
  have o:=nu cols hc ss hs k (by(exact Nat.le_of_succ_le hk))
  rw[kO cols ss k hk,hfn]
  have hle:(ss.take k).flatten.length+ss[k].length≤ss.flatten.length:=by
    conv=>rhs;rw[hfl]
    simp only[List.length_append];(exact Nat.le_add_right ((List.take k ss).flatten.length+ss[k].length) (List.drop (k+1) ss).flatten.length)
  have hl:=iR (cols:=cols) hsk
  generalize lay cols (ss.take k)=L at*
  have hsl:=ie hsk
  obtain⟨q,hA⟩:=D9 d cols hc (t:=(ss.take k).flatten.length) hfl rfl hsk (rpC (L.done.map (pad cols))) (.lst (enc L.cur)) (.lst (ak L.places)) x y z w
  generalize(ss.take k).flatten.length=t at*
  generalize ss.flatten=cs at*
  generalize ss[k]=s at*
  have o2:(L.room cols (am cols s).length).places=L.places:=by unfold Lay.room;split<;>rfl
  have hB:=D_ d cols hcols o (by(exact Nat.le_of_lt_succ (by first|assumption|omega))) hl.2.1 (.v (.lst (enc cs))) (.lst (ak L.places)) (.v (.int (t:Int))) q (.v (.int s.length)) w (sh:=am cols s) rfl
  have hC:=Eb (d+2) s.length hsl (.v (.lst (enc cs))) (.v (.int cols)) (.v (.int (t:Int))) q w ((L.room cols (am cols s).length).done.map (pad cols)) (L.room cols (am cols s).length).cur L.places (am cols s) (by have:=o.len;(exact Nat.le_of_lt_succ (by first|assumption|omega))) hl.1
  obtain⟨q2,hC⟩:=hC
  have os:=(o.sign hc hsk).cur
  have hext:bG (enc (L.room cols (am cols s).length).cur++enc (am cols s))=some (enc ((L.room cols (am cols s).length).cur++am cols s)):=by
    rw[aN]
    refine e7 ?_
    have hb:=aE
    have:((L.sign cols s).cur).length=((L.room cols (am cols s).length).cur++am cols s).length:=rfl
    rw[←aN,ab]
    (exact Nat.le_succ_of_le (by first|assumption|omega))
  have hlt:(t:Int)<((enc cs).length:Int):=by rw[ab];(exact Int.ofNat_le.mpr (by trivial))
  have e:L.sign cols s=⟨(L.room cols (am cols s).length).done,(L.room cols (am cols s).length).cur++am cols s,L.places++oZ (L.room cols (am cols s).length).done.length (L.room cols (am cols s).length).cur.length (am cols s).length s.length⟩:=by
    unfold Lay.sign Lay.put oZ
    rw[o2]
  rw[e]
  have hmap:((L.room cols (am cols s).length).done.map (pad cols)).length=(L.room cols (am cols s).length).done.length:=by simp
  rw[hmap]at hC
  refine⟨_,?_,⟨q,.v (.int s.length),.v (.lst (enc (am cols s))),q2,rfl⟩⟩
  have hbody:exs GT (Ph (d+2)) o0 [.v (.lst (enc cs)),.v (.int cols),rpC (L.done.map (pad cols)),.lst (enc L.cur),.lst (ak L.places),.v (.int (t:Int)),x,y,z,w]=some (.next,[.v (.lst (enc cs)),.v (.int cols),rpC ((L.room cols (am cols s).length).done.map (pad cols)),.lst (enc ((L.room cols (am cols s).length).cur++am cols s)),.lst (ak (L.places++oZ (L.room cols (am cols s).length).done.length (L.room cols (am cols s).length).cur.length (am cols s).length s.length)),.v (.int ((t+s.length:Nat):Int)),q,.v (.int s.length),.v (.lst (enc (am cols s))),q2]):=by
    unfold o0
    rw[gw,hA,g_,aS hB,aS hC]
    have e3:((t+s.length:Nat):Int)=(t:Int)+(s.length:Int):=by(exact Int.natCast_add t s.length)
    rw[e3]
    obtain⟨t1,t2⟩:=hY hext
    have t3:=congrArg M.lst t2
    exact ora [.n _] (a2 t1 (a2 t3 (a2 rfl rfl)):)
  exact ci (aM [] (a2 (vb (dT hlt)) rfl:)) hbody
theorem Ec(d:Nat)(cols:Nat)(hc:0<cols)(hcols:cols≤1000)(ss:List (List Cell))(hs:∀s∈ss,gA s)(hlen:ss.flatten.length≤100000):
    Ph (d+3) "cut_with_places" [.v (.lst (enc ss.flatten)),.v (.int cols)]=some (.tup [.lstM ((av cols (lay cols ss)).map fun c=>.lst (enc c)),.lst (ak (lay cols ss).places)],[.v (.lst (enc ss.flatten)),.v (.int cols)]):=by
  have hsl:ss.length≤ss.flatten.length:=by
    clear hlen
    induction ss with
    |nil=>simp
    |cons s r ih=>
      have:=ie (hs s (List.mem_cons_self ..))
      have:=ih (fun s h=>hs s (List.mem_cons_of_mem _ h))
      rw[List.flatten_cons,List.length_append,List.length_cons];(exact Nat.succ_le_of_lt (by trivial))
  have hb:=aE
  obtain⟨⟨fl,σ⟩,hw,hfl,x,y,z,w,hσ⟩:=sg (G:=GT) (Φ:=Ph (d+2)) (c:=wE) (b:=o0) (σ:=[.v (.lst (enc ss.flatten)),.v (.int cols),.lst [],.lst [],.lst [],.v (.int 0),.undef,.undef,.undef,.undef]) (fun k σ=>sj ss.flatten cols (lay cols (ss.take k)) (ss.take k).flatten.length σ) (fun y=>y.1=.next∧sj ss.flatten cols (lay cols ss) ss.flatten.length y.2) ss.length (by(exact Nat.le_succ_of_le (by trivial))) ⟨.undef,.undef,.undef,.undef,rfl⟩ (fun k hk σ h=>wG d cols hc hcols ss hs hlen k hk σ h) (by
      intro σ h
      rw[List.take_length]at h
      refine⟨(.next,σ),?_,rfl,h⟩
      obtain⟨x,y,z,w,rfl⟩:=h
      have hq:¬((ss.flatten.length:Nat):Int)<((enc ss.flatten).length:Int):=by rw[ab];exact Int.lt_irrefl _
      exact aJ (aM [] (a2 (vb (dF hq)) rfl:)))
  dsimp only at hfl hσ
  subst hfl hσ
  have e:bU=[(.asg (.tup [(.var 2 true),(.var 3 true),(.var 4 true),(.var 5 false)]) (.tup [(.lst []),(.lst []),(.lst []),(.int 0)])),.whl wE o0,(.app (.var 2) (.mov 3) true),(.ret (some (.tup [(.mov 2),(.mov 4)])))]:=rfl
  have o:=se cols hc ss hs
  have hap:=wD (d+2) ((lay cols ss).done.map (pad cols)) (lay cols ss).cur (by have:=o.many;simp;(exact Nat.le_of_lt (by trivial))) (.v (.lst (enc ss.flatten))) (.v (.int cols)) (.lst (ak (lay cols ss).places)) (.v (.int (ss.flatten.length:Nat))) x y z w
  rw[wF]at hap
  exact aD gn rfl [.k,.s _ _,.s _ _] (a2 hw (a2 hap (a2 rfl rfl)):)
end Mine.Internal
end
section
set_option genInjectivity true
namespace Mine.Internal
noncomputable abbrev Tl:=Cell×Nat×Nat
noncomputable def Tl.v(t:Tl):V:=.tup [t.1.v,.tup [.int t.2.1,.int t.2.2]]
noncomputable def ax(l:List Tl):List V:=l.map Tl.v
@[simp] theorem ig(l:List Tl):(ax l).length=l.length:=by simp[ax]
theorem qp{l:List Tl}{i:Int}{x:Tl}(h:0≤i)(hx:l[i.toNat]?=some x):item (.lst (ax l)) (.v (.int i))=some (.v x.v):=cq h (by simp[ax,hx])
noncomputable def rpL(D:List (List Cell))(c:List Cell):M:=.lstM ((D.map fun c=>.lst (enc c))++[.lst (enc c)])
@[simp] theorem ii(D:List (List Cell))(c:List Cell):item (rpL D c) (.v (.int (-1)))=some (.lst (enc c)):=by
  simp only[kI,rpL,EX,Option.bind_some]
  rw[hV (by simp),Option.bind_some]
  simp
theorem Cr(D:List (List Cell))(c:List Cell)(f:M→Option M):dv (.v (.int (-1))) f (rpL D c)=(f (.lst (enc c))).map fun y=>.lstM ((D.map fun c=>.lst (enc c))++[y]):=by
  unfold rpL
  simp only[dv]
  rw[hV (by simp),Option.bind_some]
  simp
noncomputable abbrev lA:List S:=[
    (.asg (.var 5 false) (.sub (.sub (.var 0) (.var 4)) (.int 0))),
    (.asg (.var 6 false) (.ite (.cmp .eq (.sub (.var 5) (.int 1)) (.int 2)) (.lst [(.var 5),(.sub (.sub (.var 0) (.bin .add (.var 4) (.int 1))) (.int 0))]) (.lst [(.var 5)]))),
    (.asg (.var 7 false) (.ite (.cmp .le (.bi "len" [(.var 6)]) (.var 1)) (.var 6) (.frz (.lst [(.call "_law_bare" [(.sub (.var 5) (.int 2))])]))))]
theorem Cs(d:Nat)(cols:Nat)(hc:0<cols){ts:List Tl}{a s b:List Cell}(hcs:ts.map (·.1)=a++s++b){t:Nat}(ht:t=a.length)(hs:gA s)(P Q x y z w:M):
    ∃q,exs GT (Ph (d+1)) lA [.v (.lst (ax ts)),.v (.int cols),P,Q,.v (.int (t:Int)),x,y,z,w]=some (.next,[.v (.lst (ax ts)),.v (.int cols),P,Q,.v (.int (t:Int)),q,.v (.lst (enc s)),.v (.lst (enc (am cols s))),w]):=by
  have get:∀(n:Nat) (c:Cell),(a++s++b)[n]?=some c→∃x,ts[n]?=some x∧x.1=c:=by
    intro n c h
    rw[←hcs,List.getElem?_map]at h
    cases hx:ts[n]? with
    |none=>rw[hx]at h;cases h
    |some x=>rw[hx]at h;cases h;exact⟨x,rfl,rfl⟩
  rcases hs with⟨c,rfl,h1⟩|⟨c,e,rfl,h2,h0⟩
  · obtain⟨u,hu,hu1⟩:=get t c (by rw[ht];simp)
    have hi:item (.lst (ax ts)) (.v (.int (t:Int)))=some (.v u.v):=qp (by(exact Int.natCast_nonneg t)) (by simpa using hu)
    have hsh:am cols [c]=[c]:=by unfold am;rw[if_pos (by simp;(assumption))]
    have hn:(1:Int)≤(cols:Int):=by(exact(fun{m} {n}=>Int.toNat_le.mp) hc)
    subst hu1
    refine⟨.v u.1.v,?_⟩
    rw[hsh]
    have e1:decide (u.1.w=2)=false:=decide_eq_false (by rw[h1];decide)
    have e2:decide ((([u.1.v]:List V).length:Int)≤(cols:Int))=true:=decide_eq_true hn
    exact ora [.m _,.b false,.b true] (a2 hi (a2 e1 (a2 e2 (a2 rfl rfl))):)
  · obtain⟨u,hu,hu1⟩:=get t c (by rw[ht];simp)
    obtain⟨u',hu',hu2⟩:=get (t+1) e (by rw[ht];simp)
    have hi:item (.lst (ax ts)) (.v (.int (t:Int)))=some (.v u.v):=qp (by(solve_by_elim (maxDepth:=3) [Nat.lt_of_lt_of_le,Nat.le_trans,Nat.add_le_add,Nat.le_add_right,Nat.le_add_left,Nat.sub_le,Nat.min_le_left,Nat.min_le_right,Nat.succ_le_of_lt,Nat.lt_of_succ_le])) (by simpa using hu)
    have hj:item (.lst (ax ts)) (.v (.int ((t:Int)+1)))=some (.v u'.v):=qp (by(exact Int.zero_le_ofNat (t+1))) (by rw[show((t:Int)+1).toNat=t+1 by(exact Int.toNat_natCast_add_one)];exact hu')
    have hb:=ea d c.p
    subst hu1 hu2
    have e1:decide (u.1.w=2)=true:=decide_eq_true h2
    by_cases hw:(2:Int)≤(cols:Int)
    · have hsh:am cols [u.1,u'.1]=[u.1,u'.1]:=by unfold am;rw[if_pos (by simp;(exact Int.ofNat_le.mp hw))]
      refine⟨.v u.1.v,?_⟩
      rw[hsh]
      have e2:decide ((([u.1.v,u'.1.v]:List V).length:Int)≤(cols:Int))=true:=decide_eq_true hw
      exact ora [.m _,.b true,.m _,.b true] (a2 hi (a2 e1 (a2 hj (a2 e2 (a2 rfl rfl)))):)
    · have hsh:am cols [u.1,u'.1]=[bj u.1.p]:=by unfold am;rw[if_neg (by simp;(exact Nat.lt_succ_of_le (by trivial)))];rfl
      refine⟨.v u.1.v,?_⟩
      rw[hsh]
      have e2:decide ((([u.1.v,u'.1.v]:List V).length:Int)≤(cols:Int))=false:=decide_eq_false hw
      exact ora [.m _,.b true,.m _,.b false,.c _ _] (a2 hi (a2 e1 (a2 hj (a2 e2 (a2 hb (a2 rfl rfl))))):)
noncomputable abbrev lB:S:=.ite (.cmp .gt (.bin .add (.bi "len" [(.sub (.var 2) (.neg (.int 1)))]) (.bi "len" [(.var 7)])) (.var 1)) [
      (.app (.var 2) (.lst []) true)] []
theorem Ct(d:Nat)(cols:Nat){L:Lay}{n m:Nat}(o:L.Ok cols n)(hn:n≤100000)(C R t x y w:M){sh:List Cell}(hsh:sh.length=m):
    ex GT (Ph d) lB [C,.v (.int cols),rpL L.done L.cur,R,t,x,y,.v (.lst (enc sh)),w]=some (.next,[C,.v (.int cols),rpL (L.room cols m).done (L.room cols m).cur,R,t,x,y,.v (.lst (enc sh)),w]):=by
  unfold Lay.room
  have hb:=aE
  have hmany:=o.many
  by_cases h:cols<L.cur.length+m
  · rw[if_pos h]
    have hc:(cols:Int)<((enc L.cur).length:Int)+((enc sh).length:Int):=by rw[ab,ab];lia
    have hit:=ii L.done L.cur
    have hl:((L.done.map fun c=>M.lst (enc c))++[M.lst (enc L.cur)]).length<big:=by simp;lia
    have hn:M.lstM (((L.done.map fun c=>M.lst (enc c))++[.lst (enc L.cur)])++[bF []])=rpL (L.done++[L.cur]) []:=by show M.lstM (_++[M.lst []])=_;simp[rpL]
    exact aI [.m _,.b true,.n _] (a2 hit (a2 (decide_eq_true hc) (a2 hl (a2 hn (a2 rfl rfl)))):)
  · rw[if_neg h]
    have hc:¬(cols:Int)<((enc L.cur).length:Int)+((enc sh).length:Int):=by rw[ab,ab];lia
    have hit:=ii L.done L.cur
    exact aI [.m _,.b false] (a2 hit (a2 (decide_eq_false hc) (a2 rfl rfl)):)
noncomputable abbrev lC:S:=.for_ (.var 8) (.rng Option.none (.bi "len" [(.var 6)])) [
      (.app (.var 3) (.tup [(.bin .sub (.bi "len" [(.var 2)]) (.int 1)),(.bin .add (.bi "len" [(.sub (.var 2) (.neg (.int 1)))]) (.bi "min" [(.var 8),(.bin .sub (.bi "len" [(.var 7)]) (.int 1))]))]) false)]
theorem Cv(d:Nat)(s:List Cell)(hmany:s.length=1∨s.length=2)(A B t x w:M)(D:List (List Cell))(cur:List Cell)(pl:List (Nat×Nat))(sh:List Cell)(hpl:pl.length≤200000)(h1:1≤sh.length):
    ∃q,ex GT (Ph d) lC [A,B,rpL D cur,.lst (ak pl),t,x,.v (.lst (enc s)),.v (.lst (enc sh)),w]=some (.next,[A,B,rpL D cur,.lst (ak (pl++oZ D.length cur.length sh.length s.length)),t,x,.v (.lst (enc s)),.v (.lst (enc sh)),q]):=by
  have hb:=aE
  have s1:∀(l:List (Nat×Nat)) (k:Nat) (n:Int),n=D.length→l.length≤1000000→bG (ak l++[.tup [.int n,.int (((enc cur).length:Int)+min (k:Int) (((enc sh).length:Int)-1))]])=some (ak (l++[(D.length,cur.length+min k (sh.length-1))])):=by
    intro l k n hn hl
    rw[kQ,ab,ab,hn]
    have:((cur.length:Int)+min (k:Int) ((sh.length:Int)-1))=((cur.length+min k (sh.length-1):Nat):Int):=by(exact zd (by trivial))
    rw[this]
    exact e7 (by simp;(exact Nat.lt_succ_of_le (by trivial)))
  have b9:∀(l:List (Nat×Nat)) (k:Nat) (y:M),l.length≤1000000→hH GT (Ph d) (.var 8) [(.app (.var 3) (.tup [(.bin .sub (.bi "len" [(.var 2)]) (.int 1)),(.bin .add (.bi "len" [(.sub (.var 2) (.neg (.int 1)))]) (.bi "min" [(.var 8),(.bin .sub (.bi "len" [(.var 7)]) (.int 1))]))]) false)] (.v (.int k)) [A,B,rpL D cur,.lst (ak l),t,x,.v (.lst (enc s)),.v (.lst (enc sh)),y]=some (.next,[A,B,rpL D cur,.lst (ak (l++[(D.length,cur.length+min k (sh.length-1))])),t,x,.v (.lst (enc s)),.v (.lst (enc sh)),.v (.int k)]):=by
    intro l k y hl
    refine kP rfl ?_
    obtain⟨t1,t2⟩:=hY (s1 l k ((((D.map fun c=>M.lst (enc c))++[M.lst (enc cur)]).length:Nat)-1) (by rw[List.length_append,List.length_map];simp) hl)
    have t3:=congrArg M.lst t2
    have hit:=ii D cur
    exact ora [.m _,.n _] (a2 hit (a2 t1 (a2 t3 (a2 rfl rfl))):)
  have hev:∀n:Nat,(enc s).length=n→n≤big→_:=fun n h hn=>kR (G:=GT) (Φ:=Ph d) (z:=true) (b:=.bi "len" [(.var 6)]) (σ:=[A,B,rpL D cur,.lst (ak pl),t,x,.v (.lst (enc s)),.v (.lst (enc sh)),w]) (n:=n) (by rw[←h];exact aM [] (a2 rfl rfl:)) hn
  have h0:=b9 pl 0 w (by(exact Nat.le_trans (by trivial) (Nat.le_add_left _ _)))
  have h1:=b9 (pl++[(D.length,cur.length+min 0 (sh.length-1))]) 1 (.v (.int ((0:Nat):Int))) (by simp;(exact Nat.le_trans (by trivial) (Nat.le_add_left _ _)))
  rcases hmany with h|h
  · refine⟨.v (.int 0),?_⟩
    rw[l9,hev 1 ((ab s).trans h) (by decide),Option.bind_some,h]
    show cw _ [.v (.int 0)] _=_
    rw[cM]
    rw[show hH GT (Ph d) (.var 8) _ (M.v (.int 0)) _=_ from h0]
    rfl
  · refine⟨.v (.int 1),?_⟩
    rw[l9,hev 2 ((ab s).trans h) (by decide),Option.bind_some,h]
    show cw _ [.v (.int 0),.v (.int 1)] _=_
    rw[cM]
    rw[show hH GT (Ph d) (.var 8) _ (M.v (.int 0)) _=_ from h0]
    show cw _ [.v (.int 1)] _=_
    rw[cM]
    rw[show hH GT (Ph d) (.var 8) _ (M.v (.int 1)) _=_ from h1]
    rw[List.append_assoc]
    rfl
noncomputable def sn:List S:=lA++[lB,lC,(.ext (.sub (.var 2) (.neg (.int 1))) (.var 7)),(.asg (.var 4 false) (.bin .add (.var 4) (.bi "len" [(.var 6)])))]
noncomputable def z8:E:=.cmp .lt (.var 4) (.bi "len" [(.var 0)])
noncomputable def nw(ts:List Tl)(cols:Nat)(L:Lay)(t:Nat)(σ:List M):Prop:=∃x y z w,σ=[.v (.lst (ax ts)),.v (.int cols),rpL L.done L.cur,.lst (ak L.places),.v (.int (t:Int)),x,y,z,w]
theorem tC(d:Nat)(cols:Nat)(hc:0<cols)(hcols:cols≤1000)(ts:List Tl)(ss:List (List Cell))(hts:ts.map (·.1)=ss.flatten)(hs:∀s∈ss,gA s)(hlen:ss.flatten.length≤100000)(k:Nat)(hk:k<ss.length)(σ:List M)
    (h:nw ts cols (lay cols (ss.take k)) (ss.take k).flatten.length σ):
    ∃σ',cJ GT (Ph (d+1)) z8 sn σ=some (.inl σ')∧nw ts cols (lay cols (ss.take (k+1))) (ss.take (k+1)).flatten.length σ':=by
  obtain⟨x,y,z,w,rfl⟩:=h
  have hsk:=hs ss[k] (List.getElem_mem hk)
  have hfl:=sk hk
  have hfn:=e_ hk
  have o:=nu cols hc ss hs k (by(exact Nat.le_of_succ_le hk))
  rw[kO cols ss k hk,hfn]
  have hle:(ss.take k).flatten.length+ss[k].length≤ss.flatten.length:=by
    conv=>rhs;rw[hfl]
    simp only[List.length_append];(exact Nat.le_add_right ((List.take k ss).flatten.length+ss[k].length) (List.drop (k+1) ss).flatten.length)
  have hl:=iR (cols:=cols) hsk
  generalize lay cols (ss.take k)=L at*
  have hsl:=ie hsk
  have htl:ts.length=ss.flatten.length:=by rw[←hts,List.length_map]
  obtain⟨q,hA⟩:=Cs d cols hc (t:=(ss.take k).flatten.length) (hts.trans hfl) rfl hsk (rpL L.done L.cur) (.lst (ak L.places)) x y z w
  generalize(ss.take k).flatten.length=t at*
  generalize ss.flatten=cs at*
  generalize ss[k]=s at*
  have o2:(L.room cols (am cols s).length).places=L.places:=by unfold Lay.room;split<;>rfl
  have hB:=Ct (d+1) cols o (by lia) (.v (.lst (ax ts))) (.lst (ak L.places)) (.v (.int (t:Int))) q (.v (.lst (enc s))) w (sh:=am cols s) rfl
  have hC:=Cv (d+1) s hsl (.v (.lst (ax ts))) (.v (.int cols)) (.v (.int (t:Int))) q w (L.room cols (am cols s).length).done (L.room cols (am cols s).length).cur L.places (am cols s) (by have:=o.len;lia) hl.1
  obtain⟨q2,hC⟩:=hC
  have os:=(o.sign hc hsk).cur
  have hext:bG (enc (L.room cols (am cols s).length).cur++enc (am cols s))=some (enc ((L.room cols (am cols s).length).cur++am cols s)):=by
    rw[aN]
    refine e7 ?_
    have hb:=aE
    have o3:=o.cur
    have h4:(L.room cols (am cols s).length).cur.length≤cols:=by
      unfold Lay.room
      split
      · simp
      · exact o3
    simp;(exact Nat.le_of_lt_succ (by first|assumption|omega))
  have hlt:(t:Int)<((ax ts).length:Int):=by rw[ig];(exact Int.ofNat_le.mpr (by trivial))
  have e:L.sign cols s=⟨(L.room cols (am cols s).length).done,(L.room cols (am cols s).length).cur++am cols s,L.places++oZ (L.room cols (am cols s).length).done.length (L.room cols (am cols s).length).cur.length (am cols s).length s.length⟩:=by
    unfold Lay.sign Lay.put oZ
    rw[o2]
  rw[e]
  refine⟨_,?_,⟨q,.v (.lst (enc s)),.v (.lst (enc (am cols s))),q2,rfl⟩⟩
  have hbody:exs GT (Ph (d+1)) sn [.v (.lst (ax ts)),.v (.int cols),rpL L.done L.cur,.lst (ak L.places),.v (.int (t:Int)),x,y,z,w]=some (.next,[.v (.lst (ax ts)),.v (.int cols),rpL (L.room cols (am cols s).length).done ((L.room cols (am cols s).length).cur++am cols s),.lst (ak (L.places++oZ (L.room cols (am cols s).length).done.length (L.room cols (am cols s).length).cur.length (am cols s).length s.length)),.v (.int ((t+s.length:Nat):Int)),q,.v (.lst (enc s)),.v (.lst (enc (am cols s))),q2]):=by
    unfold sn
    rw[gw,hA,g_,aS hB,aS hC]
    have e3:((t+s.length:Nat):Int)=(t:Int)+((enc s).length:Int):=by rw[ab];exact Int.natCast_add t s.length
    have hi:dv (.v (.int (-1))) (pA (.v (.lst (enc (am cols s))))) (rpL (L.room cols (am cols s).length).done (L.room cols (am cols s).length).cur)=some (rpL (L.room cols (am cols s).length).done ((L.room cols (am cols s).length).cur++am cols s)):=by
      rw[Cr]
      show Option.map _ ((bG _).map M.lst)=_
      rw[hext];rfl
    rw[e3]
    exact ora [.m _] (a2 hi (a2 rfl rfl):)
  exact ci (aM [] (a2 (vb (dT hlt)) rfl:)) hbody
theorem tD{ss:List (List Cell)}(hs:∀s∈ss,gA s):ss.length≤ss.flatten.length:=by
  induction ss with
  |nil=>simp
  |cons s r ih=>
    have:=ie (hs s (List.mem_cons_self ..))
    have:=ih (fun s h=>hs s (List.mem_cons_of_mem _ h))
    rw[List.flatten_cons,List.length_append,List.length_cons];lia
theorem kS(d:Nat)(cols:Nat)(hc:0<cols)(hcols:cols≤1000)(ts:List Tl)(ss:List (List Cell))(hts:ts.map (·.1)=ss.flatten)(hs:∀s∈ss,gA s)(hlen:ss.flatten.length≤100000):
    Ph (d+2) "_law_laid" [.v (.lst (ax ts)),.v (.int cols)]=some (.tup [rpL (lay cols ss).done (lay cols ss).cur,.lst (ak (lay cols ss).places)],[.v (.lst (ax ts)),.v (.int cols)]):=by
  have hsl:=tD hs
  have hb:=aE
  have htl:ts.length=ss.flatten.length:=by rw[←hts,List.length_map]
  obtain⟨⟨fl,σ⟩,hw,hfl,x,y,z,w,hσ⟩:=sg (G:=GT) (Φ:=Ph (d+1)) (c:=z8) (b:=sn) (σ:=[.v (.lst (ax ts)),.v (.int cols),.lstM [.lst []],.lst [],.v (.int 0),.undef,.undef,.undef,.undef]) (fun k σ=>nw ts cols (lay cols (ss.take k)) (ss.take k).flatten.length σ) (fun y=>y.1=.next∧nw ts cols (lay cols ss) ss.flatten.length y.2) ss.length (by(exact Nat.le_of_lt_succ (by trivial))) ⟨.undef,.undef,.undef,.undef,rfl⟩ (fun k hk σ h=>tC d cols hc hcols ts ss hts hs hlen k hk σ h) (by
      intro σ h
      rw[List.take_length]at h
      refine⟨(.next,σ),?_,rfl,h⟩
      obtain⟨x,y,z,w,rfl⟩:=h
      exact aJ (aM [] (a2 (vb (dF (show¬(ss.flatten.length:Int)<((ax ts).length:Int)by rw[ig,htl];lia))) rfl:)))
  dsimp only at hfl hσ
  subst hfl hσ
  exact aD oH rfl [.k,.k,.k,.s _ _] (a2 hw (a2 rfl rfl):)
end Mine.Internal
end
section
set_option genInjectivity true
namespace Mine.Internal
noncomputable def Ed:Option Nat→V
  |none=>.none
  |some n=>.int n
noncomputable def beg(ps:List (List Cell))(k:Nat):Nat:=(ps.take k).flatten.length
theorem ij{ps:List (List Cell)}{k:Nat}(h:k<ps.length):beg ps (k+1)=beg ps k+ps[k].length:=e_ h
noncomputable def du(ps:List (List Cell))(k:Nat):Option Nat:=if k+1<ps.length then(ps[k]?).map List.length else none
theorem ft{ps:List (List Cell)}{i:Int}{k:Nat}(hi:i=k)(h:k<ps.length):item (.lst (c_ (gz ps))) (.v (.int i))=some (.v (.int (beg ps k))):=by
  subst hi
  exact Cj (by(exact Int.natCast_nonneg k)) (by rw[Int.toNat_natCast];exact oW ps k h)
theorem mf(d:Nat)(l:LL)(ps:List (List Cell))(hl:l.begins=gz ps)(k:Nat)(hk:k<ps.length):Ph (d+1) "LogicalLine.size_of" [.v l.obj,.v (.int k)]=some (.v (Ed (du ps k)),[.v l.obj,.v (.int k)]):=by
  have h0:=(bf _ _).trans (ft (ps:=ps) (i:=(k:Int)) rfl hk)
  have hlen:(c_ l.begins).length=ps.length:=by rw[hl];simp
  rw[←hl]at h0
  unfold du
  by_cases h:k+1<ps.length
  · rw[if_pos h]
    have h1:=(bf _ _).trans (ft (ps:=ps) (i:=(k:Int)+1) (k:=k+1) (by(exact Int.ofNat_add_one_out k)) h)
    rw[←hl]at h1
    have hb:=ij hk
    have e:(ps[k]?).map List.length=some ps[k].length:=by rw[List.getElem?_eq_getElem hk];rfl
    rw[e]
    exact aD bY rfl [.b true,.m _,.m _,.n _] (a2 (dT (show(k:Int)+1<((c_ l.begins).length:Int)by omega)) (a2 h1 (a2 h0 (a2 (vi (show(beg ps (k+1):Int)-(beg ps k:Int)=(ps[k].length:Int)by lia)) (a2 rfl rfl)))):)
  · rw[if_neg h]
    exact aD bY rfl [.b false] (a2 (dF (show¬(k:Int)+1<((c_ l.begins).length:Int)by omega)) (a2 rfl rfl):)
noncomputable def b8(ps:List (List Cell))(k c:Nat):Bool:=match du ps k with
  |some n=>decide (n≤c∧0<n)
  |none=>false
noncomputable def qq(ps:List (List Cell))(k c:Nat):Nat:=if b8 ps k c then beg ps (k+1)-1 else beg ps k+c
theorem o4(d:Nat)(l:LL)(ps:List (List Cell))(hl:l.begins=gz ps)(k c:Nat)(hk:k<ps.length):Ph (d+2) "LogicalLine.offset_of" [.v l.obj,.v (.int k),.v (.int c)]=some (.v (.tup [.int (qq ps k c),.bool (b8 ps k c)]),[.v l.obj,.v (.int k),.v (.int c)]):=by
  have h0:=(bf _ _).trans (ft (ps:=ps) (i:=(k:Int)) rfl hk)
  rw[←hl]at h0
  have hs:=mf d l ps hl k hk
  unfold qq
  cases h:du ps k with
  |none=>
    rw[h]at hs
    have hF:b8 ps k c=false:=by unfold b8;rw[h]
    rw[hF]
    exact aD a8 rfl [.c _ _,.b false,.b false,.m _] (a2 hs (a2 rfl (a2 rfl (a2 h0 (a2 rfl rfl)))):)
  |some n=>
    rw[h]at hs
    have hb:=ij hk
    have hn:n=ps[k].length:=by
      unfold du at h
      split at h
      · rw[List.getElem?_eq_getElem hk]at h;simpa using h.symm
      · cases h
    have hz:(decide ((n:Int)≤(c:Int))&&decide ((0:Int)<(n:Int)))=decide (n≤c∧0<n):=by rw[dle,dps,←Bool.decide_and]
    by_cases hd:n≤c∧0<n
    · have e:M.v (.tup [.int ((beg ps k:Int)+(n:Int)-1),.bool true])=.v (.tup [.int ((beg ps (k+1)-1:Nat):Int),.bool true]):=by
        rw[show(beg ps k:Int)+(n:Int)-1=((beg ps (k+1)-1:Nat):Int)by omega]
      have hF:b8 ps k c=true:=by unfold b8;rw[h];exact dT hd
      rw[dT hd]at hz
      rw[hF]
      exact aD a8 rfl [.c _ _,.b true,.p,.b true,.m _,.n _] (a2 hs (a2 rfl (a2 rfl (a2 hz (a2 h0 (a2 e (a2 rfl rfl)))))):)
    · have hF:b8 ps k c=false:=by unfold b8;rw[h];exact dF hd
      rw[dF hd]at hz
      rw[hF]
      exact aD a8 rfl [.c _ _,.b true,.p,.b false,.m _] (a2 hs (a2 rfl (a2 rfl (a2 hz (a2 h0 (a2 rfl rfl))))):)
theorem tE(d:Nat)(l:LL)(n:Nat)(hn:n≤100000)(hl:l.cells.length≤100000):Ph (d+3) "LogicalLine.kept_to" [l.own,.v (.int n)]=some (.v .none,[LL.own { l with cells:=pad n l.cells },.v (.int n)]):=by
  have hb:=aE
  have hw:=ic (G:=GT) (Φ:=Ph (d+2)) (c:=(.cmp .lt (.bi "len" [(.attr (.var 0) "cells")]) (.var 1))) (b:=[
    (.app (.attr (.var 0) "cells") (.call "blank_cell" [(.glob "PLAIN")]) false)]) (σ:=[l.own,.v (.int n)]) (σ':=[LL.own { l with cells:=pad n l.cells },.v (.int n)]) (fl:=.next) (fun k=>[LL.own { l with cells:=l.cells++List.replicate k ao },.v (.int n)]) (n-l.cells.length) (by(exact Nat.lt_of_le_of_lt (Nat.sub_le _ _) (by trivial))) (by simp) (fun k hk=>by
      have hl2:((enc (l.cells++List.replicate k ao)).length:Int)=(l.cells.length:Int)+(k:Int):=by simp
      have hs:enc (l.cells++List.replicate k ao)++[ao.v]=enc (l.cells++List.replicate (k+1) ao):=by
        rw[List.replicate_succ',←List.append_assoc,aN _ [ao]];rfl
      exact ci (aM [] (a2 (vb (dT (show((enc (l.cells++List.replicate k ao)).length:Int)<(n:Int)by omega))) rfl:)) (ora [.c _ _,.n _] (a2 (f6 d) (a2 (show(enc (l.cells++List.replicate k ao)++[ao.v]).length≤big by simp;(exact Nat.lt_succ_of_le (by trivial))) (a2 (ml hs) (a2 rfl rfl))):)))
      (aJ (aM [] (a2 (vb (dF (show¬((enc (pad n l.cells)).length:Int)<(n:Int)by simp[pad];(exact Int.ofNat_le.mpr (by trivial))))) rfl:)))
  exact aD d9 rfl [.s _ _] (a2 hw (a2 rfl rfl):)
noncomputable def aL(ac:List (List Cell)):List V:=ac.map fun c=>V.lst (enc c)
@[simp] theorem fb(ac:List (List Cell)):(aL ac).length=ac.length:=by simp[aL]
noncomputable def aT(ac:List (List Cell))(pl:List (Nat×Nat))(off:Nat):Nat×Nat:=(pl[off]?).getD (ac.length-1,(ac.getLast?.map List.length).getD 0)
noncomputable def plV(p:Nat×Nat):V:=.tup [.int p.1,.int p.2]
theorem db(d:Nat)(ac:List (List Cell))(x:List Cell)(pl:List (Nat×Nat))(off:Nat):Ph (d+1) "reflow_place" [.v (.lst (aL (ac++[x]))),.v (.lst (ak pl)),.v (.int off)]=some (.v (plV (aT (ac++[x]) pl off)),[.v (.lst (aL (ac++[x]))),.v (.lst (ak pl)),.v (.int off)]):=by
  unfold aT
  by_cases h:off<pl.length
  · have hi:item (.v (.lst (ak pl))) (.v (.int (off:Int)))=some (.v (plV pl[off])):=(bf _ _).trans (cq (by(exact Int.natCast_nonneg off)) (by simp[ak,h,plV]))
    rw[List.getElem?_eq_getElem h]
    exact aD er rfl [.b true,.m _] (a2 (dT (show(off:Int)<((ak pl).length:Int)by simp;(assumption))) (a2 hi (a2 rfl rfl)):)
  · have hl:item (.v (.lst (aL (ac++[x])))) (.v (.int (-1)))=some (.v (.lst (enc x))):=by
      rw[bf]
      unfold aL
      rw[List.map_append]
      exact dW
    rw[List.getElem?_eq_none (by(exact Nat.le_of_not_lt h))]
    have e:M.v (.tup [.int (((aL (ac++[x])).length:Int)-1),.int ((enc x).length:Int)])=.v (plV (Option.getD none ((ac++[x]).length-1,((ac++[x]).getLast?.map List.length).getD 0))):=by
      rw[fb,ab];simp[plV]
    exact aD er rfl [.b false,.m _,.n _] (a2 (dF (show¬(off:Int)<((ak pl).length:Int)by simp;lia)) (a2 hl (a2 e (a2 rfl rfl))):)
end Mine.Internal
end
section
set_option genInjectivity true
namespace Mine.Internal
theorem so:∀(l:List V) (n k:Nat),(bS n l)[k]?=(l[k]?).map fun x=>V.tup [.int ((n+k:Nat):Int),x]
  |[],_,_=>by simp[w8]
  |x::r,n,0=>by simp[mz]
  |x::r,n,k+1=>by
    simp only[mz,List.getElem?_cons_succ]
    rw[so r (n+1) k,show n+1+k=n+(k+1)by(exact Nat.succ_add_eq_add_succ n k)]
@[simp] theorem yP:∀(l:List V) (n:Nat),(bS n l).length=l.length
  |[],_=>rfl
  |x::r,n=>by simp[mz,yP r]
theorem ny(l:List V)(k:Nat)(h:k<((bS 0 l).map M.v).length)(h2:k<l.length):((bS 0 l).map M.v)[k]=.v (.tup [.int (k:Int),l[k]]):=by
  have:=so l 0 k
  rw[List.getElem?_eq_getElem h2,Nat.zero_add]at this
  rw[List.getElem_map]
  have h3:k<(bS 0 l).length:=by simpa using h2
  rw[List.getElem?_eq_getElem h3]at this
  simp only[Option.map_some,Option.some.injEq]at this
  rw[this]
noncomputable abbrev rB:List S:=[(.asg (.sub (.attr (.var 3) "cells") (.var 4)) (.var 5))]
theorem lq(d:Nat)(piece:List Cell)(cols:Nat)(hcols:cols≤1000)(hp:piece.length≤cols)(wr:Bool):Ph (d+5) "reflow_line" [.v (.lst (enc piece)),.v (.int cols),.v (.bool wr)]=some (Ln.own ⟨pad cols piece,wr,"single"⟩,[.v (.lst (enc piece)),.v (.int cols),.v (.bool wr)]):=by
  have hn:=jf d cols bN (by(exact Nat.ToInt.of_le rfl rfl hcols)) (by(exact Int.neg_ofNat_le_natCast 1000 cols))
  simp only[ww,Int.toNat_natCast]at hn
  have hn:Ph (d+4) "Line.__init__" [.obj "Line" [],.v (.int cols),.v bK]=some (.v .none,[Ln.own ⟨List.replicate cols ao,false,"single"⟩,.v (.int cols),.v bK]):=hn
  obtain⟨τ,ht,x,y,rfl⟩:=fj (G:=GT) (Φ:=Ph (d+4)) (p:=.tup [(.var 4),(.var 5)]) (s:=.enum (.var 0)) (b:=rB) (σ:=[.v (.lst (enc piece)),.v (.int cols),.v (.bool wr),Ln.own ⟨List.replicate cols ao,false,"single"⟩,.undef,.undef]) (fun k σ=>∃x y,σ=[.v (.lst (enc piece)),.v (.int cols),.v (.bool wr),Ln.own ⟨piece.take k++List.replicate (cols-k) ao,false,"single"⟩,x,y]) rfl ⟨_,_,rfl⟩ (by
      rintro k hk _ ⟨x,y,rfl⟩
      have hk2:k<piece.length:=by simpa using hk
      have hk3:k<(enc piece).length:=by simpa using hk2
      have hg:(enc piece)[k]=piece[k].v:=by simp[enc]
      rw[ny (enc piece) k hk hk3,hg]
      have hset:(enc (piece.take k++List.replicate (cols-k) ao)).set k piece[k].v=enc (piece.take (k+1)++List.replicate (cols-(k+1)) ao):=by
        unfold enc
        rw[←List.map_set]
        congr 1
        have ht:piece.take (k+1)=piece.take k++[piece[k]]:=by rw[List.take_add_one,List.getElem?_eq_getElem hk2];rfl
        have hkk:k-(piece.take k).length=0:=by rw[List.length_take];(exact Ac (by trivial))
        rw[show cols-k=(cols-(k+1))+1 by(exact w6 (by trivial)),List.replicate_succ,ht]
        rw[List.set_append_right _ _ (by simp;(exact Nat.min_le_left k piece.length)),hkk,List.set_cons_zero,List.append_assoc]
        rfl
      have hix:ix (k:Int) (enc (piece.take k++List.replicate (cols-k) ao)).length=some k:=wt (by(exact Int.natCast_nonneg k)) (by simp;(exact Int.ofNat_lt.mpr (by trivial)))
      exact⟨_,_,rfl,ora [.m _] (a2 (show lh (.v (.int k)) (.v piece[k].v) (.lst _)=some (.lst _)from bd hix (md rfl (by rw[hset]))) (a2 rfl rfl):),_,_,rfl⟩)
  have e2:piece.take ((bS 0 (enc piece)).map M.v).length++List.replicate (cols-((bS 0 (enc piece)).map M.v).length) ao=pad cols piece:=by
    simp[pad]
  rw[e2]at ht
  exact aD kF rfl [.c _ (_::_),.s _ _] (a2 rfl (a2 hn (a2 ht (a2 rfl rfl))):)
inductive Spt where
  |other (b:Nat)
  |at(b g:Nat) (n:Option Nat) (r:List (List Cell)) (x:List Cell) (pl:List (Nat×Nat))
noncomputable def Spt.v:Spt→V
  |.other b=>.tup [.int b,.int 0,.none,.none,.none]
  |.at b g n r x pl=>.tup [.int b,.int g,Ed n,.lst (aL (r++[x])),.lst (ak pl)]
structure Cu where
  cols:Nat
  lines:List Ln
  first:Nat
  row:Nat
  col:Nat
  wait:Bool
  spots:List Spt
noncomputable def iT(l:List Spt):List V:=l.map Spt.v
@[simp] theorem o6(l:List Spt):(iT l).length=l.length:=by simp[iT]
noncomputable def Cu.own(c:Cu):M:=.obj "Cutting" [("columns",.v (.int c.cols)),("lines",.lst (aq c.lines)),("first",.v (.int c.first)),("row",.v (.int c.row)),("column",.v (.int c.col)),("is_waiting",.v (.bool c.wait)),("spots",.lst (iT c.spots))]
noncomputable def Cu.obj(c:Cu):V:=.obj "Cutting" [("columns",.int c.cols),("lines",.lst (aq c.lines)),("first",.int c.first),("row",.int c.row),("column",.int c.col),("is_waiting",.bool c.wait),("spots",.lst (iT c.spots))]
noncomputable def Cu.behind(c:Cu):Cu:=if c.col+1<c.cols then{ c with col:=c.col+1 }else{ c with wait:=true }
theorem o7(d:Nat)(c:Cu):Ph (d+1) "Cutting.go_behind" [c.own]=some (.v .none,[c.behind.own]):=by
  unfold Cu.behind
  by_cases h:c.col+1<c.cols
  · rw[if_pos h]
    exact aD cE rfl [.b true] (a2 (dT (show(c.col:Int)+1<(c.cols:Int)by(exact Int.lt_of_toNat_lt h))) (a2 rfl rfl):)
  · rw[if_neg h]
    exact aD cE rfl [.b false] (a2 (dF (show¬(c.col:Int)+1<(c.cols:Int)by lia)) (a2 rfl rfl):)
theorem Ee(d:Nat)(c:Cu)(ac:Nat):Ph (d+1) "Cutting.top" [.v c.obj,.v (.int ac)]=some (.v (.int (if(c.lines.length:Int)-(c.first:Int)>(ac:Int)then min ((c.lines.length:Int)-(ac:Int)) (c.row:Int)else max 0 (min (c.first:Int) ((c.lines.length:Int)-(ac:Int))))),[.v c.obj,.v (.int ac)]):=by
  rw[←cF c.lines]
  by_cases hc:(ac:Int)<((aq c.lines).length:Int)-(c.first:Int)
  · rw[if_pos hc]
    exact aD eU rfl [.b true] (a2 (decide_eq_true hc) (a2 rfl rfl):)
  · rw[if_neg hc]
    exact aD eU rfl [.b false] (a2 (decide_eq_false hc) (a2 rfl rfl):)
noncomputable def dY(m:Option Nat)(k:Nat):Nat:=match m with
  |none=>k
  |some n=>min k (n-1)
noncomputable def Spt.place(cols:Nat)(c:Nat):Spt→Nat×Nat
  |.other b=>(b,min c (cols-1))
  |.at b g n r x pl=>let p:=aT (r++[x]) pl (g+dY n c);(b+p.1,min p.2 (cols-1))
theorem ik(d:Nat)(c:Cu)(n:Int)(k:Int)(h:n<0∨(c.spots.length:Int)≤n):Ph (d+1) "Cutting.place_of" [.v c.obj,.v (.int n),.v (.int k)]=some (.v .none,[.v c.obj,.v (.int n),.v (.int k)]):=by
  have hz:(!(decide (0≤n)&&decide (n<((iT c.spots).length:Int))))=true:=by
    rw[o6,Bool.not_eq_true',Bool.and_eq_false_iff]
    exact(show¬ 0≤n∨¬n<(c.spots.length:Int)by(simp[*])).imp dF dF
  exact aD ba rfl [.p,.b true] (a2 rfl (a2 hz (a2 rfl rfl)):)
theorem Cw{l:List Spt}{i:Nat}{x:Spt}(hx:l[i]?=some x):item (.lst (iT l)) (.v (.int i))=some (.v x.v):=cq (by(exact Int.natCast_nonneg i)) (by simp[iT,hx])
theorem qr(d:Nat)(c:Cu)(n k:Nat)(s:Spt)(hs:c.spots[n]?=some s)(hc0:0<c.cols):Ph (d+2) "Cutting.place_of" [.v c.obj,.v (.int n),.v (.int k)]=some (.v (plV (s.place c.cols k)),[.v c.obj,.v (.int n),.v (.int k)]):=by
  have hi:=(bf (iT c.spots) (.v (.int n))).trans (Cw hs)
  have hn:n<c.spots.length:=by
    rcases Nat.lt_or_ge n c.spots.length with q|q
    · exact q
    · rw[List.getElem?_eq_none q]at hs;cases hs
  have hz:(!(decide (0≤(n:Int))&&decide ((n:Int)<((iT c.spots).length:Int))))=false:=by
    rw[o6,dT (by(exact Int.natCast_nonneg n)),dT (by(exact Int.ofNat_lt.mpr hn))];rfl
  cases s with
  |other b=>
    have e:M.v (.tup [.int b,.int (min (k:Int) ((c.cols:Int)-1))])=.v (plV (Spt.place c.cols k (.other b))):=by
      rw[show min (k:Int) ((c.cols:Int)-1)=((min k (c.cols-1):Nat):Int)by(exact nJ (by trivial))];rfl
    exact aD ba rfl [.p,.b false,.m _,.b true,.n _] (a2 rfl (a2 hz (a2 hi (a2 rfl (a2 e (a2 rfl rfl))))):)
  | «at» b g m r x pl=>
    have hrp:=db d r x pl (g+dY m k)
    have e:M.v (.tup [.int ((b:Int)+((aT (r++[x]) pl (g+dY m k)).1:Int)),.int (min ((aT (r++[x]) pl (g+dY m k)).2:Int) ((c.cols:Int)-1))])=.v (plV (Spt.place c.cols k (.at b g m r x pl))):=by
      rw[show min ((aT (r++[x]) pl (g+dY m k)).2:Int) ((c.cols:Int)-1)=((min (aT (r++[x]) pl (g+dY m k)).2 (c.cols-1):Nat):Int)by(exact nJ (by trivial))];rfl
    cases m with
    |none=>exact aD ba rfl [.p,.b false,.m _,.b false,.b true,.c _ _,.k,.n _] (a2 rfl (a2 hz (a2 hi (a2 rfl (a2 rfl (a2 hrp (a2 e (a2 rfl rfl))))))):)
    |some m=>
      have e2:M.v (.int ((g:Int)+min (k:Int) (max 0 ((m:Int)-1))))=.v (.int ((g+dY (some m) k:Nat):Int)):=vi (by simp only[dY];(exact EK))
      exact aD ba rfl [.p,.b false,.m _,.b false,.b false,.a _,.a _,.a _,.a _,.a _,.c _ _,.k,.n _] (a2 rfl (a2 hz (a2 hi (a2 rfl (a2 rfl (a2 rfl (a2 rfl (a2 rfl (a2 rfl (a2 e2 (a2 hrp (a2 e (a2 rfl rfl)))))))))))):)
end Mine.Internal
end
section
set_option genInjectivity true
namespace Mine.Internal
structure Cur where
  r:Nat
  c:Nat
  w:Bool
noncomputable def Cur.v(k:Cur):V:=.tup [.int k.r,.int k.c,.bool k.w]
section
variable (ls:List Ln) (cols top:Nat) (k:Cur) (i:Nat)
noncomputable def aX:Bool:=decide (i≤k.r∧k.r≤aa ls i)
noncomputable def aG:Nat:=if aX ls k i then qq (ad ls i) (k.r-i) k.c else 0
noncomputable def bA:Bool:=if aX ls k i then b8 (ad ls i) (k.r-i) k.c else false
noncomputable def aU:List Cell:=(ad ls i).flatten
noncomputable def b_:Lay:=lay cols (parse (aU ls i))
noncomputable def aC:Bool:=aX ls k i&&!k.w&&decide (0<(aU ls i).length)&&decide ((aU ls i).length=aG ls k i)&&decide ((b_ ls cols i).cur.length=cols)
noncomputable def cellsG:List Cell:=if aX ls k i&&!aC ls cols k i then pad (aG ls k i+1) (aU ls i)else aU ls i
noncomputable def au:Lay:=lay cols (parse (cellsG ls cols k i))
noncomputable def ay(ac:List (List Cell))(goes:Bool):List Ln:=(List.range ac.length).map fun n=>⟨pad cols (ac[n]?.getD []),decide (n+1<ac.length)||goes,"single"⟩
noncomputable def aO(b:Nat)(ps:List (List Cell))(L:Lay):List Spt:=(List.range ps.length).map fun n=>.at b (beg ps n) (du ps n) (L.done.map (pad cols)) L.cur L.places
noncomputable def bg(b:Nat)(L:Lay)(u:Cu):Cu:=if i≤top∧top≤aa ls i then{ u with first:=b+(aT (av cols L) L.places (beg (ad ls i) (top-i))).1 }else u
noncomputable def cj(b:Nat)(L:Lay)(u:Cu):Cu:=
  if aX ls k i then
    if aC ls cols k i then{ u with row:=b+(aT (av cols L) L.places (aG ls k i)).1,col:=min (aT (av cols L) L.places (aG ls k i)).2 (cols-1),wait:=true }
    else if bA ls k i then{ u with row:=b+(aT (av cols L) L.places (aG ls k i)).1,col:=min (min (aT (av cols L) L.places (aG ls k i)).2 (cols-1)+1) (cols-1) }
    else if k.w then Cu.behind { u with row:=b+(aT (av cols L) L.places (aG ls k i)).1,col:=min (aT (av cols L) L.places (aG ls k i)).2 (cols-1) }
    else{ u with row:=b+(aT (av cols L) L.places (aG ls k i)).1,col:=min (aT (av cols L) L.places (aG ls k i)).2 (cols-1) }
  else u
noncomputable def il(u:Cu):Cu:=
  cj ls cols k i u.lines.length (au ls cols k i) (bg ls cols top i u.lines.length (au ls cols k i)
    { u with lines:=u.lines++ay cols (av cols (au ls cols k i)) (bm ls (aa ls i)),spots:=u.spots++aO cols u.lines.length (ad ls i) (au ls cols k i) })
noncomputable def br:List Cell:=((ls[i]?).map Ln.cells).getD []
noncomputable def im(u:Cu):Cu:={ u with
  lines:=u.lines++[⟨bl (br ls i) cols,bm ls i&&decide (cols=(br ls i).length),bz ls i⟩]
  spots:=u.spots++[.other u.lines.length]
  first:=if i=top then u.lines.length else u.first
  row:=if i=k.r then u.lines.length else u.row
  col:=if i=k.r then min k.c (cols-1)else u.col
  wait:=if i=k.r then k.w&&decide ((br ls i).length=cols)else u.wait }
noncomputable def b9(u:Cu):Cu:=if bz ls i="single" then il ls cols top k i u else im ls cols top k i u
end
@[simp] theorem E1(l:List V):(V.tup l).pure=V.pures l:=rfl
@[simp] theorem EI:V.pures []=true:=rfl
@[simp] theorem Ef(x:V)(r:List V):V.pures (x::r)=(x.pure&&V.pures r):=rfl
@[simp] theorem EJ(l:List M):M.indep (.tup l)=M.indeps l:=rfl
@[simp] theorem o8(l:List M):M.indep (.lstM l)=M.indeps l:=rfl
@[simp] theorem Eg:M.indeps []=true:=rfl
@[simp] theorem CW(x:M)(r:List M):M.indeps (x::r)=(x.indep&&M.indeps r):=rfl
@[simp] theorem qs:∀l:List (Nat×Nat),V.pures (ak l)=true
  |[]=>rfl
  |x::r=>by
    have:=qs r
    unfold ak at this ⊢
    simp[this]
theorem ip:∀ac:List (List Cell),M.indeps (ac.map fun c=>M.lst (enc c))=true
  |[]=>rfl
  |x::r=>by simp[ip r]
theorem sq{G:Tab}{Φ:Phi}{i j:Nat}{e:E}{σ:List M}{R a:M}{l:List V}(he:ev G Φ e σ=some (.tup [R,.lst l],σ))(hR:dG R=some a)(hi:decide (i<σ.length)=true)(hj:decide (j<σ.length)=true)(ht:e.temp=true):ex G Φ (.asg (.tup [.var i false,.var j false]) e) σ=some (.next,(σ.set i a).set j (.v (.lst l))):=by
  rw[wg,he]
  show gd (e.temp||_) (xaY G Φ _ _) σ=_
  rw[ht]
  show Option.map nXt (Option.bind (if i<σ.length then(dG R).map fun m=>σ.set i m else none) (tcK G Φ _ _))=_
  rw[if_pos (of_decide_eq_true hi),hR]
  show Option.map nXt (Option.bind (if j<(σ.set i a).length then some ((σ.set i a).set j (.v (.lst l)))else none) _)=_
  rw[if_pos (by rw[List.length_set];exact of_decide_eq_true hj)]
  rfl
theorem o9(ac:List (List Cell)):dG (.lstM (ac.map fun c=>.lst (enc c)))=some (.v (.lst (aL ac))):=by
  have:∀ac:List (List Cell),M.toVs (ac.map fun c=>M.lst (enc c))=some (aL ac):=by
    intro ac
    induction ac with
    |nil=>rfl
    |cons r q ih=>exact bd (rfl:M.toV (.lst (enc r))=some (.lst (enc r))) (md ih rfl)
  exact md (md (this ac) rfl) rfl
end Mine.Internal
end
section
set_option genInjectivity true
namespace Mine.Internal
noncomputable abbrev p0:S:=(.asg (.tup [(.var 5 false),(.var 6 false)]) (.tup [(.bi "len" [(.attr (.var 0) "lines")]),(.bin .sub (.bin .add (.attr (.var 1) "first") (.bi "len" [(.attr (.var 1) "begins")])) (.int 1))]))
noncomputable abbrev p1:S:=(.ite (.cmp .ne (.attr (.var 1) "size") (.glob "SINGLE")) [
    (.app (.attr (.var 0) "lines") (.meth (.sub (.var 2) (.attr (.var 1) "first")) "Line" "resized" "Line.resized" [(.attr (.var 0) "columns"),(.glob "PLAIN")]) false),
    (.app (.attr (.var 0) "spots") (.tup [(.var 5),(.int 0),.none,.none,.none]) false),
    (.ite (.cmp .eq (.attr (.var 1) "first") (.var 3)) [
      (.asg (.attr (.var 0) "first") (.var 5))] []),
    (.ite (.cmp .eq (.attr (.var 1) "first") (.sub (.var 4) (.int 0))) [
      (.asg (.tup [(.attr (.var 0) "row"),(.attr (.var 0) "column")]) (.tup [(.var 5),(.bi "min" [(.sub (.var 4) (.int 1)),(.bin .sub (.attr (.var 0) "columns") (.int 1))])])),
      (.asg (.attr (.var 0) "is_waiting") (.and [(.sub (.var 4) (.int 2)),(.cmp .eq (.attr (.sub (.var 2) (.attr (.var 1) "first")) "columns") (.attr (.var 0) "columns"))]))] []),
    (.ret Option.none)] [])
noncomputable abbrev p2:S:=(.asg (.var 7 false) (.cmp2 .le .le (.attr (.var 1) "first") (.sub (.var 4) (.int 0)) (.var 6)))
noncomputable abbrev p3:S:=(.asg (.tup [(.var 8 false),(.var 9 false)]) (.ite (.var 7) (.meth (.var 1) "LogicalLine" "offset_of" "LogicalLine.offset_of" [(.bin .sub (.sub (.var 4) (.int 0)) (.attr (.var 1) "first")),(.sub (.var 4) (.int 1))]) (.tup [(.int 0),(.bool false)])))
noncomputable abbrev p4:S:=(.asg (.tup [(.var 10 false),(.var 11 false)]) (.call "cut_with_places" [(.attr (.var 1) "cells"),(.attr (.var 0) "columns")]))
noncomputable abbrev p5:S:=(.asg (.var 12 false) (.and [(.var 7),(.not (.sub (.var 4) (.int 2))),(.cmp2 .lt .eq (.int 0) (.bi "len" [(.attr (.var 1) "cells")]) (.var 8)),(.cmp .eq (.bi "len" [(.sub (.var 10) (.neg (.int 1)))]) (.attr (.var 0) "columns"))]))
noncomputable abbrev p6:S:=(.ite (.and [(.var 7),(.not (.var 12))]) [
    (.expr (.meth (.var 1) "LogicalLine" "kept_to" "LogicalLine.kept_to" [(.bin .add (.var 8) (.int 1))])),
    (.asg (.tup [(.var 10 false),(.var 11 false)]) (.call "cut_with_places" [(.attr (.var 1) "cells"),(.attr (.var 0) "columns")]))] [])
noncomputable abbrev p7:S:=(.frz (.var 1))
noncomputable abbrev p8:S:=(.for_ (.tup [(.var 13),(.var 14)]) (.enum (.attr (.var 1) "begins")) [
    (.app (.attr (.var 0) "spots") (.tup [(.var 5),(.var 14),(.meth (.var 1) "LogicalLine" "size_of" "LogicalLine.size_of" [(.var 13)]),(.var 10),(.var 11)]) false)])
noncomputable abbrev p9:S:=(.for_ (.tup [(.var 15),(.var 16)]) (.enum (.var 10)) [
    (.asg (.var 17 false) (.or [(.cmp .lt (.bin .add (.var 15) (.int 1)) (.bi "len" [(.var 10)])),(.not (.attr (.var 1) "is_whole"))])),
    (.app (.attr (.var 0) "lines") (.call "reflow_line" [(.var 16),(.attr (.var 0) "columns"),(.var 17)]) false)])
noncomputable abbrev p10:S:=(.ite (.cmp2 .le .le (.attr (.var 1) "first") (.var 3) (.var 6)) [
    (.asg (.var 18 false) (.call "reflow_place" [(.var 10),(.var 11),(.sub (.attr (.var 1) "begins") (.bin .sub (.var 3) (.attr (.var 1) "first")))])),
    (.asg (.attr (.var 0) "first") (.bin .add (.var 5) (.sub (.var 18) (.int 0))))] [])
noncomputable abbrev p11:S:=(.ite (.var 7) [
    (.asg (.var 18 false) (.call "reflow_place" [(.var 10),(.var 11),(.var 8)])),
    (.asg (.tup [(.attr (.var 0) "row"),(.attr (.var 0) "column")]) (.tup [(.bin .add (.var 5) (.sub (.var 18) (.int 0))),(.bi "min" [(.sub (.var 18) (.int 1)),(.bin .sub (.attr (.var 0) "columns") (.int 1))])])),
    (.ite (.var 12) [
      (.asg (.attr (.var 0) "is_waiting") (.bool true))] [
      (.ite (.var 9) [
        (.asg (.attr (.var 0) "column") (.bi "min" [(.bin .add (.attr (.var 0) "column") (.int 1)),(.bin .sub (.attr (.var 0) "columns") (.int 1))]))] [
        (.ite (.sub (.var 4) (.int 2)) [
          (.expr (.meth (.var 0) "Cutting" "go_behind" "Cutting.go_behind" []))] [])])])] [])
theorem o_:a6=[p0,p1,p2,p3,p4,p5,p6,p7,p8,p9,p10,p11]:=rfl
end Mine.Internal
end
section
set_option genInjectivity true
namespace Mine.Internal
theorem z9(d:Nat)(u:Cu)(W:LL)(i n:Nat)(hW:W.first=i)(hb:W.begins.length=n+1)(A B C x5 x6 x7 x8 x9 x10 x11 x12 x13 x14 x15 x16 x17 x18:M):
    ex GT (Ph d) p0 [u.own,W.own,A,B,C,x5,x6,x7,x8,x9,x10,x11,x12,x13,x14,x15,x16,x17,x18]=some (.next,[u.own,W.own,A,B,C,.v (.int u.lines.length),.v (.int ((i+n:Nat):Int)),x7,x8,x9,x10,x11,x12,x13,x14,x15,x16,x17,x18]):=by
  subst hW
  have e:((W.first:Int)+(W.begins.length:Int)-1)=((W.first+n:Nat):Int):=by lia
  have e:M.v (.int ((W.first:Int)+((c_ W.begins).length:Int)-1))=.v (.int ((W.first+n:Nat):Int)):=vi (by rw[wz];exact e)
  exact aI [.n _,.n _] (a2 (vi (congrArg Int.ofNat (cF u.lines))) (a2 e (a2 rfl rfl)):)
theorem Cy(d:Nat)(u:Cu)(W:LL)(hW:W.size="single")(A B C x5 x6 x7 x8 x9 x10 x11 x12 x13 x14 x15 x16 x17 x18:M):
    ex GT (Ph d) p1 [u.own,W.own,A,B,C,x5,x6,x7,x8,x9,x10,x11,x12,x13,x14,x15,x16,x17,x18]=some (.next,[u.own,W.own,A,B,C,x5,x6,x7,x8,x9,x10,x11,x12,x13,x14,x15,x16,x17,x18]):=by
  exact aI [.b false] (a2 (show(!decide (W.size="single"))=false by simp[hW]) (a2 rfl rfl):)
theorem Cz(d:Nat)(ls:List Ln)(top:Nat)(k:Cur)(i:Nat)(u:Cu)(W:LL)(hW:W.size≠"single")(h1:W.first=i)(hi:i<ls.length)(hl1:u.lines.length≤100000)(hl2:u.spots.length≤100000)
    (hc:0<u.cols)(hc2:u.cols≤100)(hl:ls[i].cells.length≤100)(hw:WF ls[i].cells)(hne:ls[i].cells≠[])(x6 x7 x8 x9 x10 x11 x12 x13 x14 x15 x16 x17 x18:M):
    ex GT (Ph (d+6)) p1 [u.own,W.own,.v (.lst (aq ls)),.v (.int top),.v k.v,.v (.int u.lines.length),x6,x7,x8,x9,x10,x11,x12,x13,x14,x15,x16,x17,x18]=some (.ret (.v .none),[(im ls u.cols top k i u).own,W.own,.v (.lst (aq ls)),.v (.int top),.v k.v,.v (.int u.lines.length),x6,x7,x8,x9,x10,x11,x12,x13,x14,x15,x16,x17,x18]):=by
  subst h1
  have ha:=gv (ls:=ls) (i:=(W.first:Int)) (by(exact Int.natCast_nonneg W.first)) (by simp;exact List.getElem?_eq_getElem hi)
  have hr:=kL d ls[W.first] u.cols hc hc2 hl hw.first hne
  have hL:ls[W.first]?=some ls[W.first]:=List.getElem?_eq_getElem hi
  have hb:=aE
  have hcol:=kK (d+5) ls[W.first]
  have eT:im ls u.cols top k W.first u={ u with
      lines:=u.lines++[⟨bl ls[W.first].cells u.cols,ls[W.first].goes&&decide (u.cols=ls[W.first].cells.length),ls[W.first].size⟩]
      spots:=u.spots++[.other u.lines.length]
      first:=if W.first=top then u.lines.length else u.first
      row:=if W.first=k.r then u.lines.length else u.row
      col:=if W.first=k.r then min k.c (u.cols-1)else u.col
      wait:=if W.first=k.r then k.w&&decide (ls[W.first].cells.length=u.cols)else u.wait }:=by
    simp only[im,br,bm,bz,hL,Option.map_some,Option.getD_some]
  rw[eT]
  generalize(⟨bl ls[W.first].cells u.cols,ls[W.first].goes&&decide (u.cols=ls[W.first].cells.length),ls[W.first].size⟩:Ln)=N at*
  generalize ls[W.first]=l at*
  have z0:(!decide (W.size="single"))=true:=by simp[hW]
  have L1:(aq u.lines++[N.obj]).length≤big:=by rw[List.length_append];simp;omega
  have L2:(iT u.spots++[V.tup [.int u.lines.length,.int 0,.none,.none,.none]]).length≤big:=by rw[List.length_append];simp;(exact Nat.le_of_lt_succ (by trivial))
  have n1:M.lst (aq u.lines++[N.obj])=.lst (aq (u.lines++[N])):=ml (by unfold aq;rw[List.map_append];rfl)
  have n2:M.lst (iT u.spots++[V.tup [.int u.lines.length,.int 0,.none,.none,.none]])=.lst (iT (u.spots++[.other u.lines.length])):=ml (by unfold iT;rw[List.map_append];rfl)
  have e1:M.v (.int (min (k.c:Int) ((u.cols:Int)-1)))=.v (.int ((min k.c (u.cols-1):Nat):Int)):=vi (by(exact nJ (by trivial)))
  have ed:M.v (.bool (k.w&&decide ((l.cells.length:Int)=(u.cols:Int))))=.v (.bool (k.w&&decide (l.cells.length=u.cols))):=vb (congrArg _ (decide_eq_decide.mpr Int.ofNat_inj))
  have hr:=hr.trans rfl
  by_cases h2:W.first=top<;>by_cases h3:W.first=k.r
  · simp only[if_pos h2,if_pos h3]
    exact aI [.b true,.m _,.c _ _,.n _,.n _,.b true,.b true,.k,.n _,.p,.m _,.c _ _,.n _] (a2 z0 (a2 ha (a2 hr (a2 L1 (a2 n1 (a2 L2 (a2 n2 (a2 (dT (congrArg Int.ofNat h2)) (a2 (dT (congrArg Int.ofNat h3)) (a2 e1 (a2 ha (a2 hcol (a2 rfl (a2 ed (a2 rfl rfl)))))))))))))):)
  · simp only[if_pos h2,if_neg h3]
    exact aI [.b true,.m _,.c _ _,.n _,.n _,.b true,.b false] (a2 z0 (a2 ha (a2 hr (a2 L1 (a2 n1 (a2 L2 (a2 n2 (a2 (dT (congrArg Int.ofNat h2)) (a2 (dF fun q=>h3 (Int.ofNat_inj.mp q)) (a2 rfl rfl))))))))):)
  · simp only[if_neg h2,if_pos h3]
    exact aI [.b true,.m _,.c _ _,.n _,.n _,.b false,.b true,.k,.n _,.p,.m _,.c _ _,.n _] (a2 z0 (a2 ha (a2 hr (a2 L1 (a2 n1 (a2 L2 (a2 n2 (a2 (dF fun q=>h2 (Int.ofNat_inj.mp q)) (a2 (dT (congrArg Int.ofNat h3)) (a2 e1 (a2 ha (a2 hcol (a2 rfl (a2 ed (a2 rfl rfl)))))))))))))):)
  · simp only[if_neg h2,if_neg h3]
    exact aI [.b true,.m _,.c _ _,.n _,.n _,.b false,.b false] (a2 z0 (a2 ha (a2 hr (a2 L1 (a2 n1 (a2 L2 (a2 n2 (a2 (dF fun q=>h2 (Int.ofNat_inj.mp q)) (a2 (dF fun q=>h3 (Int.ofNat_inj.mp q)) (a2 rfl rfl))))))))):)
end Mine.Internal
end
section
set_option genInjectivity true
namespace Mine.Internal
theorem Eh(d:Nat)(ls:List Ln)(k:Cur)(i:Nat)(U:M)(W:LL)(hW:W.first=i)(A B x5 x7 x8 x9 x10 x11 x12 x13 x14 x15 x16 x17 x18:M):
    ex GT (Ph d) p2 [U,W.own,A,B,.v k.v,x5,.v (.int ((aa ls i:Nat):Int)),x7,x8,x9,x10,x11,x12,x13,x14,x15,x16,x17,x18]=some (.next,[U,W.own,A,B,.v k.v,x5,.v (.int ((aa ls i:Nat):Int)),.v (.bool (aX ls k i)),x8,x9,x10,x11,x12,x13,x14,x15,x16,x17,x18]):=by
  subst hW
  have e:M.v (.bool (decide ((W.first:Int)≤(k.r:Int))&&decide ((k.r:Int)≤((aa ls W.first:Nat):Int))))=.v (.bool (aX ls k W.first)):=vb ((Bool.decide_and ..).symm.trans (decide_eq_decide.mpr (and_congr Int.ofNat_le Int.ofNat_le)))
  exact aI [.p,.n _] (a2 rfl (a2 e (a2 rfl rfl)):)
theorem nz{ls:List Ln}{k:Cur}{i:Nat}(h:aX ls k i=true):k.r-i<(ad ls i).length:=by
  unfold aX at h
  have:=of_decide_eq_true h
  simp only[ad,gy]
  unfold aa at this
  (exact Nat.succ_le_of_lt (by first|assumption|omega))
theorem Ei(d:Nat)(ls:List Ln)(k:Cur)(i:Nat)(U:M)(W:LL)(hW:W.first=i)(hb:W.begins=gz (ad ls i))(A B x5 x6 x8 x9 x10 x11 x12 x13 x14 x15 x16 x17 x18:M):
    ex GT (Ph (d+2)) p3 [U,W.own,A,B,.v k.v,x5,x6,.v (.bool (aX ls k i)),x8,x9,x10,x11,x12,x13,x14,x15,x16,x17,x18]=some (.next,[U,W.own,A,B,.v k.v,x5,x6,.v (.bool (aX ls k i)),.v (.int ((aG ls k i:Nat):Int)),.v (.bool (bA ls k i)),x10,x11,x12,x13,x14,x15,x16,x17,x18]):=by
  unfold aG bA
  cases hh:aX ls k i with
  |false=>exact aI [.b false] (a2 rfl (a2 rfl rfl):)
  |true=>
    have ho:=o4 d W (ad ls i) hb (k.r-i) k.c (nz hh)
    unfold aX at hh
    have hh:=of_decide_eq_true hh
    have e:M.v (.int ((k.r:Int)-(i:Int)))=.v (.int ((k.r-i:Nat):Int)):=vi (by(exact wZ (by trivial)))
    subst hW
    exact aI [.b true,.a _,.c _ _] (a2 rfl (a2 e (a2 ho (a2 rfl (a2 rfl rfl)))):)
theorem z_(d:Nat)(ls:List Ln)(cols:Nat)(hc:0<cols)(hcols:cols≤1000)(u:Cu)(hu:u.cols=cols)(W:LL)(cs:List Cell)(hcs:W.cells=cs)(hw:WF cs)(hl:cs.length≤100000)(A B C x5 x6 x7 x8 x9 x10 x11 x12 x13 x14 x15 x16 x17 x18:M):
    ex GT (Ph (d+3)) p4 [u.own,W.own,A,B,C,x5,x6,x7,x8,x9,x10,x11,x12,x13,x14,x15,x16,x17,x18]=some (.next,[u.own,W.own,A,B,C,x5,x6,x7,x8,x9,.v (.lst (aL (av cols (lay cols (parse cs))))),.v (.lst (ak (lay cols (parse cs)).places)),x12,x13,x14,x15,x16,x17,x18]):=by
  subst hcs hu
  obtain⟨h1,h2⟩:=hw.parse
  have hP:=Ec d u.cols hc hcols (parse W.cells) h2 (by rw[h1];exact hl)
  rw[h1]at hP
  have hf:=o9 (av u.cols (lay u.cols (parse W.cells)))
  have hin:=ip (av u.cols (lay u.cols (parse W.cells)))
  have hq:((M.tup [.lstM ((av u.cols (lay u.cols (parse W.cells))).map fun c=>.lst (enc c)),.lst (ak (lay u.cols (parse W.cells)).places)]).indep&&(GT.io "cut_with_places").all fun x=>!x)=true:=by
    show((M.indeps _&&_)&&_)=true
    rw[hin];simp
  exact sq (aM [.c _ _] (a2 hP (a2 hq (a2 rfl rfl)):)) hf rfl rfl rfl
theorem kT(D:List (List Cell))(c:List Cell):item (.lst (aL (D++[c]))) (.v (.int (-1)))=some (.v (.lst (enc c))):=by
  unfold aL
  rw[List.map_append]
  exact dW
theorem Ej(d:Nat)(ls:List Ln)(k:Cur)(i:Nat)(u:Cu)(W:LL)(hW:W.cells=aU ls i)(A B x5 x6 x9 x11 x12 x13 x14 x15 x16 x17 x18:M):
    ex GT (Ph d) p5 [u.own,W.own,A,B,.v k.v,x5,x6,.v (.bool (aX ls k i)),.v (.int ((aG ls k i:Nat):Int)),x9,.v (.lst (aL (av u.cols (b_ ls u.cols i)))),x11,x12,x13,x14,x15,x16,x17,x18]=some (.next,[u.own,W.own,A,B,.v k.v,x5,x6,.v (.bool (aX ls k i)),.v (.int ((aG ls k i:Nat):Int)),x9,.v (.lst (aL (av u.cols (b_ ls u.cols i)))),x11,.v (.bool (aC ls u.cols k i)),x13,x14,x15,x16,x17,x18]):=by
  have hi:=kT ((b_ ls u.cols i).done.map (pad u.cols)) (b_ ls u.cols i).cur
  have e:M.v (.bool (aX ls k i&&(!k.w&&(decide ((0:Int)<((enc W.cells).length:Int))&&decide (((enc W.cells).length:Int)=((aG ls k i:Nat):Int))&&decide (((enc (b_ ls u.cols i).cur).length:Int)=(u.cols:Int))))))=.v (.bool (aC ls u.cols k i)):=vb (by
    unfold aC
    rw[hW,ab,ab,dn,dn,dps]
    simp only[Bool.and_assoc])
  exact aI [.p,.p,.p,.p,.m _,.n _] (a2 rfl (a2 hi (a2 rfl (a2 rfl (a2 rfl (a2 e (a2 rfl rfl)))))):)
theorem CA(d:Nat)(b1 b2:Bool)(h:(b1&&!b2)=false)(U W A B C x5 x6 x8 x9 x10 x11 x13 x14 x15 x16 x17 x18:M):
    ex GT (Ph d) p6 [U,W,A,B,C,x5,x6,.v (.bool b1),x8,x9,x10,x11,.v (.bool b2),x13,x14,x15,x16,x17,x18]=some (.next,[U,W,A,B,C,x5,x6,.v (.bool b1),x8,x9,x10,x11,.v (.bool b2),x13,x14,x15,x16,x17,x18]):=by
  exact aI [.p,.b false] (a2 rfl (a2 h (a2 rfl rfl)):)
theorem Ek(d:Nat)(cols:Nat)(hc:0<cols)(hcols:cols≤1000)(u:Cu)(hu:u.cols=cols)(W:LL)(off:Nat)(ho:off≤50000)(cs:List Cell)(hcs:pad (off+1) W.cells=cs)(hw:WF cs)(hl:W.cells.length≤50000)(A B C x5 x6 x9 x10 x11 x13 x14 x15 x16 x17 x18:M):
    ex GT (Ph (d+3)) p6 [u.own,W.own,A,B,C,x5,x6,.v (.bool true),.v (.int (off:Int)),x9,x10,x11,.v (.bool false),x13,x14,x15,x16,x17,x18]=some (.next,[u.own,LL.own { W with cells:=cs },A,B,C,x5,x6,.v (.bool true),.v (.int (off:Int)),x9,.v (.lst (aL (av cols (lay cols (parse cs))))),.v (.lst (ak (lay cols (parse cs)).places)),.v (.bool false),x13,x14,x15,x16,x17,x18]):=by
  have h4:=z_ d [] cols hc hcols u hu { W with cells:=cs } cs rfl hw (by rw[←hcs];simp[pad];omega) A B C x5 x6 (.v (.bool true)) (.v (.int (off:Int))) x9 x10 x11 (.v (.bool false)) x13 x14 x15 x16 x17 x18
  have hk:=tE d W (off+1) (by(exact Nat.le_succ_of_le (by trivial))) (by(exact Nat.le_trans (by trivial) (Nat.le_add_left _ _)))
  rw[hcs]at hk
  have e:((off+1:Nat):Int)=(off:Int)+1:=by(simp)
  rw[e]at hk
  exact aI [.b true,.b true,.c _ _,.s _ _] (a2 rfl (a2 rfl (a2 hk (a2 h4 (a2 rfl rfl)))):)
end Mine.Internal
end
section
set_option genInjectivity true
namespace Mine.Internal
theorem dZ{α:Type}(f:α→V)(A B:List α)(k:Nat)(h:k<B.length)(hs:A.length+B.length≤big):bG ((A++B.take k).map f++[f B[k]])=some ((A++B.take (k+1)).map f):=by
  have e:B.take (k+1)=B.take k++[B[k]]:=by rw[List.take_add_one,List.getElem?_eq_getElem h];rfl
  rw[e,←List.append_assoc,List.map_append (l₂:=[B[k]])]
  exact e7 (by simp;lia)
theorem El(d:Nat)(U:M)(W:LL)(A B C x5 x6 x7 x8 x9 x10 x11 x12 x13 x14 x15 x16 x17 x18:M):
    ex GT (Ph d) p7 [U,W.own,A,B,C,x5,x6,x7,x8,x9,x10,x11,x12,x13,x14,x15,x16,x17,x18]=some (.next,[U,.v W.obj,A,B,C,x5,x6,x7,x8,x9,x10,x11,x12,x13,x14,x15,x16,x17,x18]):=by
  exact aI [] (a2 rfl rfl:)
@[simp] theorem yQ(cols b:Nat)(ps:List (List Cell))(L:Lay):(aO cols b ps L).length=ps.length:=by simp[aO]
theorem iq(cols b:Nat)(ps:List (List Cell))(L:Lay)(k:Nat)(h:k<(aO cols b ps L).length):(aO cols b ps L)[k]=.at b (beg ps k) (du ps k) (L.done.map (pad cols)) L.cur L.places:=by simp[aO]
@[simp] theorem yR(cols:Nat)(ac:List (List Cell))(g:Bool):(ay cols ac g).length=ac.length:=by simp[ay]
theorem ir(cols:Nat)(ac:List (List Cell))(g:Bool)(k:Nat)(h:k<(ay cols ac g).length):(ay cols ac g)[k]=⟨pad cols (ac[k]'(by simpa using h)),decide (k+1<ac.length)||g,"single"⟩:=by
  have h2:k<ac.length:=by simpa using h
  simp[ay,h2]
theorem Em(d:Nat)(u:Cu)(W:LL)(b:Nat)(ps:List (List Cell))(hb:W.begins=gz ps)(L:Lay)(hs:u.spots.length+ps.length≤100000)(A B C x6 x7 x8 x9 x12 x13 x14 x15 x16 x17 x18:M):
    ∃q r,ex GT (Ph (d+1)) p8 [u.own,.v W.obj,A,B,C,.v (.int b),x6,x7,x8,x9,.v (.lst (aL (av u.cols L))),.v (.lst (ak L.places)),x12,x13,x14,x15,x16,x17,x18]=
      some (.next,[Cu.own { u with spots:=u.spots++aO u.cols b ps L },.v W.obj,A,B,C,.v (.int b),x6,x7,x8,x9,.v (.lst (aL (av u.cols L))),.v (.lst (ak L.places)),x12,q,r,x15,x16,x17,x18]):=by
  have hbig:=aE
  obtain⟨τ,ht,q,r,rfl⟩:=fj (G:=GT) (Φ:=Ph (d+1)) (p:=.tup [(.var 13),(.var 14)]) (s:=.enum (.attr (.var 1) "begins")) (b:=[
    (.app (.attr (.var 0) "spots") (.tup [(.var 5),(.var 14),(.meth (.var 1) "LogicalLine" "size_of" "LogicalLine.size_of" [(.var 13)]),(.var 10),(.var 11)]) false)]) (σ:=[u.own,.v W.obj,A,B,C,.v (.int b),x6,x7,x8,x9,.v (.lst (aL (av u.cols L))),.v (.lst (ak L.places)),x12,x13,x14,x15,x16,x17,x18])
    (fun k σ=>∃q r,σ=[Cu.own { u with spots:=u.spots++(aO u.cols b ps L).take k },.v W.obj,A,B,C,.v (.int b),x6,x7,x8,x9,.v (.lst (aL (av u.cols L))),.v (.lst (ak L.places)),x12,q,r,x15,x16,x17,x18]) rfl ⟨x13,x14,by rw[List.take_zero,List.append_nil]⟩ (by
      rintro k hk _ ⟨q,r,rfl⟩
      have hk2:k<ps.length:=by simpa[hb]using hk
      have hk3:k<(c_ W.begins).length:=by simpa[hb]using hk2
      have hg:(c_ W.begins)[k]=.int (beg ps k):=by
        have h4:(c_ W.begins)[k]?=some (.int (beg ps k)):=by
          rw[hb];unfold c_;rw[List.getElem?_map,oW ps k hk2];rfl
        rw[List.getElem?_eq_getElem hk3]at h4
        exact Option.some.inj h4
      rw[ny (c_ W.begins) k hk hk3,hg]
      have hk5:k<(aO u.cols b ps L).length:=by simpa using hk2
      have hp:=dZ Spt.v u.spots (aO u.cols b ps L) k hk5 (by simp;(exact Nat.le_trans (by trivial) (Nat.le_add_left _ _)))
      rw[iq]at hp
      obtain⟨h1,h2⟩:=hY hp
      exact⟨_,_,rfl,ora [.c _ _,.n _] (a2 (mf d W ps hb k hk2) (a2 h1 (a2 (ml h2) (a2 rfl rfl))):),_,_,rfl⟩)
  have e2:(aO u.cols b ps L).take ((bS 0 (c_ W.begins)).map M.v).length=aO u.cols b ps L:=List.take_of_length_le (by simp[hb])
  rw[e2]at ht
  exact⟨q,r,ht⟩
theorem En(d:Nat)(u:Cu)(W:LL)(ac:List (List Cell))(hr:∀p∈ac,p.length≤u.cols)(hc:u.cols≤1000)(hs:u.lines.length+ac.length≤200000)(A B C x5 x6 x7 x8 x9 x11 x12 x13 x14 x15 x16 x17 x18:M):
    ∃q r s,ex GT (Ph (d+5)) p9 [u.own,.v W.obj,A,B,C,x5,x6,x7,x8,x9,.v (.lst (aL ac)),x11,x12,x13,x14,x15,x16,x17,x18]=
      some (.next,[Cu.own { u with lines:=u.lines++ay u.cols ac (!W.whole) },.v W.obj,A,B,C,x5,x6,x7,x8,x9,.v (.lst (aL ac)),x11,x12,x13,x14,q,r,s,x18]):=by
  have hbig:=aE
  obtain⟨τ,ht,q,r,s,rfl⟩:=fj (G:=GT) (Φ:=Ph (d+5)) (p:=.tup [(.var 15),(.var 16)]) (s:=.enum (.var 10)) (b:=[
    (.asg (.var 17 false) (.or [(.cmp .lt (.bin .add (.var 15) (.int 1)) (.bi "len" [(.var 10)])),(.not (.attr (.var 1) "is_whole"))])),
    (.app (.attr (.var 0) "lines") (.call "reflow_line" [(.var 16),(.attr (.var 0) "columns"),(.var 17)]) false)]) (σ:=[u.own,.v W.obj,A,B,C,x5,x6,x7,x8,x9,.v (.lst (aL ac)),x11,x12,x13,x14,x15,x16,x17,x18])
    (fun k σ=>∃q r s,σ=[Cu.own { u with lines:=u.lines++(ay u.cols ac (!W.whole)).take k },.v W.obj,A,B,C,x5,x6,x7,x8,x9,.v (.lst (aL ac)),x11,x12,x13,x14,q,r,s,x18]) rfl ⟨x15,x16,x17,by rw[List.take_zero,List.append_nil]⟩ (by
      rintro k hk _ ⟨q,r,s,rfl⟩
      have hk2:k<ac.length:=by simpa using hk
      have hk3:k<(aL ac).length:=by simpa using hk2
      have hg:(aL ac)[k]=.lst (enc ac[k]):=by simp[aL]
      rw[ny (aL ac) k hk hk3,hg]
      have hk5:k<(ay u.cols ac (!W.whole)).length:=by simpa using hk2
      have hp:=dZ Ln.obj u.lines (ay u.cols ac (!W.whole)) k hk5 (by simp;(exact Nat.le_trans (by trivial) (Nat.le_add_left _ _)))
      rw[ir]at hp
      obtain⟨h1,h2⟩:=hY hp
      have hl:=lq d ac[k] u.cols hc (hr _ (List.getElem_mem hk2)) (decide (k+1<ac.length)||!W.whole)
      have e:M.v (.bool (decide ((k:Int)+1<((aL ac).length:Int))||!W.whole))=.v (.bool (decide (k+1<ac.length)||!W.whole)):=vb (by rw[fb];exact congrArg (· ||_) (decide_eq_decide.mpr (by lia)))
      exact⟨_,_,rfl,ora [.p,.n _,.c _ _,.n _] (a2 rfl (a2 e (a2 hl (a2 h1 (a2 (ml h2) (a2 rfl rfl))))):),_,_,_,rfl⟩)
  have e2:(ay u.cols ac (!W.whole)).take ((bS 0 (aL ac)).map M.v).length=ay u.cols ac (!W.whole):=List.take_of_length_le (by simp)
  rw[e2]at ht
  exact⟨q,r,s,ht⟩
end Mine.Internal
end
section
set_option genInjectivity true
namespace Mine.Internal
theorem CB(d:Nat)(ls:List Ln)(top:Nat)(i:Nat)(u:Cu)(W:LL)(hW:W.first=i)(hb:W.begins=gz (ad ls i))(b:Nat)(L:Lay)(A C x7 x8 x9 x12 x13 x14 x15 x16 x17 x18:M):
    ∃q,ex GT (Ph (d+1)) p10 [u.own,.v W.obj,A,.v (.int top),C,.v (.int b),.v (.int ((aa ls i:Nat):Int)),x7,x8,x9,.v (.lst (aL (av u.cols L))),.v (.lst (ak L.places)),x12,x13,x14,x15,x16,x17,x18]=
      some (.next,[(bg ls u.cols top i b L u).own,.v W.obj,A,.v (.int top),C,.v (.int b),.v (.int ((aa ls i:Nat):Int)),x7,x8,x9,.v (.lst (aL (av u.cols L))),.v (.lst (ak L.places)),x12,x13,x14,x15,x16,x17,q]):=by
  unfold bg
  by_cases h:i≤top∧top≤aa ls i
  · rw[if_pos h]
    have hlt:top-i<(ad ls i).length:=by
      simp only[ad,gy]
      unfold aa at h
      (exact zg (by trivial) (by trivial))
    have hi:=ft (ps:=ad ls i) (i:=(top:Int)-(i:Int)) (k:=top-i) (by(exact wZ (by trivial))) hlt
    have hp:=db d (L.done.map (pad u.cols)) L.cur L.places (beg (ad ls i) (top-i))
    subst hW
    rw[←hb]at hi
    exact⟨_,aI [.b true,.b true,.m _,.c _ _] (a2 (dT (Int.ofNat_le.mpr h.1)) (a2 (dT (Int.ofNat_le.mpr h.2)) (a2 hi (a2 hp (a2 rfl rfl)))):)⟩
  · rw[if_neg h]
    subst hW
    by_cases h1:W.first≤top
    · have h2:¬top≤aa ls W.first:=fun h2=>h ⟨h1,h2⟩
      exact⟨_,aI [.b true,.b false] (a2 (dT (Int.ofNat_le.mpr h1)) (a2 (dF (fun q=>h2 (Int.ofNat_le.mp q))) (a2 rfl rfl)):)⟩
    · exact⟨_,aI [.b false,.b false] (a2 (dF (fun q=>h1 (Int.ofNat_le.mp q))) (a2 rfl (a2 rfl rfl)):)⟩
theorem CC(d:Nat)(ls:List Ln)(k:Cur)(i:Nat)(u:Cu)(W:M)(b:Nat)(L:Lay)(hc:0<u.cols)(A B x6 x13 x14 x15 x16 x17 x18:M):
    ∃q,ex GT (Ph (d+1)) p11 [u.own,W,A,B,.v k.v,.v (.int b),x6,.v (.bool (aX ls k i)),.v (.int ((aG ls k i:Nat):Int)),.v (.bool (bA ls k i)),.v (.lst (aL (av u.cols L))),.v (.lst (ak L.places)),.v (.bool (aC ls u.cols k i)),x13,x14,x15,x16,x17,x18]=
      some (.next,[(cj ls u.cols k i b L u).own,W,A,B,.v k.v,.v (.int b),x6,.v (.bool (aX ls k i)),.v (.int ((aG ls k i:Nat):Int)),.v (.bool (bA ls k i)),.v (.lst (aL (av u.cols L))),.v (.lst (ak L.places)),.v (.bool (aC ls u.cols k i)),x13,x14,x15,x16,x17,q]):=by
  unfold cj
  cases hh:aX ls k i with
  |false=>exact⟨x18,aI [.b false] (a2 rfl (a2 rfl rfl):)⟩
  |true=>
    have hp:=db d (L.done.map (pad u.cols)) L.cur L.places (aG ls k i)
    change Ph (d+1) "reflow_place" [.v (.lst (aL (av u.cols L))),_,_]=some (.v (plV (aT (av u.cols L) L.places _)),[.v (.lst (aL (av u.cols L))),_,_])at hp
    refine⟨.v (plV (aT (av u.cols L) L.places (aG ls k i))),?_⟩
    generalize aT (av u.cols L) L.places (aG ls k i)=p at*
    have e1:M.v (.int (min (p.2:Int) ((u.cols:Int)-1)))=.v (.int ((min p.2 (u.cols-1):Nat):Int)):=congrArg (fun x=>M.v (.int x)) (by(exact nJ (by trivial)))
    have hg:=o7 d { u with row:=b+p.1,col:=min p.2 (u.cols-1) }
    have e2:M.v (.int (min (((min p.2 (u.cols-1):Nat):Int)+1) ((u.cols:Int)-1)))=.v (.int ((min (min p.2 (u.cols-1)+1) (u.cols-1):Nat):Int)):=congrArg (fun x=>M.v (.int x)) (by(exact CY (by trivial)))
    generalize min p.2 (u.cols-1)=c1 at*
    cases hb:aC ls u.cols k i with
    |true=>exact aI [.b true,.c _ _,.k,.k,.n _,.b true] (a2 rfl (a2 hp (a2 e1 (a2 rfl (a2 rfl rfl)))):)
    |false=>
      cases hf:bA ls k i with
      |true=>exact aI [.b true,.c _ _,.k,.k,.n _,.b false,.b true,.n _] (a2 rfl (a2 hp (a2 e1 (a2 rfl (a2 rfl (a2 e2 (a2 rfl rfl)))))):)
      |false=>
        cases hkw:k.w with
        |true=>exact aI [.b true,.c _ _,.k,.k,.n _,.b false,.b false,.b true,.c _ [_]] (a2 rfl (a2 hp (a2 e1 (a2 rfl (a2 rfl (a2 hkw (a2 hg (a2 rfl rfl))))))):)
        |false=>exact aI [.b true,.c _ _,.k,.k,.n _,.b false,.b false,.b false] (a2 rfl (a2 hp (a2 e1 (a2 rfl (a2 rfl (a2 hkw (a2 rfl rfl)))))):)
end Mine.Internal
end
section
set_option genInjectivity true
namespace Mine.Internal
theorem pb:∀a b:List Int,V.eqs (a.map .int) (b.map .int)=decide (a=b)
  |[],[]=>rfl
  |[],b::r=>rfl
  |a::r,[]=>rfl
  |a::r,b::q=>by
    simp only[List.map_cons,gb,gc,gf,qL,qM,qN,qO,qP,pb r q]
    by_cases h:a=b<;>by_cases h2:r=q<;>simp[h,h2]
theorem Cell.plain_iff(c:Cell):c.plain=true↔c=ao:=by
  obtain⟨t,w,⟨p1,p2,p3,p4,p5⟩,g⟩:=c
  unfold Cell.plain Cell.v Pen.v
  have e:=pb t []
  simp only[List.map_nil]at e
  simp[qL,qM,qN,qO,qP,gb,gc,gf,ao,bj,bN,e,-List.map_eq_nil_iff]
theorem Cell.plain_w{c:Cell}(h:c.plain=true):c.w=1:=by
  rw[Cell.plain_iff]at h;subst h;rfl
theorem WF.used{cs:List Cell}:∀n,n≤cs.length→WF (cs.take n)→WF (cs.take (used cs n))
  |0,_,h=>h
  |n+1,hn,h=>by
    rw[qo]
    have hx:cs[n]?=some cs[n]:=List.getElem?_eq_getElem hn
    rw[hx]
    simp only[Option.any_some]
    split
    · rename_i hp
      refine WF.used n (by(exact Nat.le_of_succ_le hn)) ?_
      have:cs.take (n+1)=cs.take n++[cs[n]]:=by rw[List.take_add_one,hx];rfl
      rw[this]at h
      exact h.pop (Cell.plain_w hp)
    · exact h
theorem WF.strip{cs:List Cell}(h:WF cs):WF (strip cs):=WF.used cs.length (Nat.le_refl _) (by rwa[List.take_length])
structure Good (ls:List Ln):Prop where
  wf:∀l∈ls,WF l.cells
  full:kM ls
  len:ls.length≤100
theorem WF.part{ls:List Ln}(g:Good ls)(i:Nat):WF (ai ls i):=by
  unfold ai
  split
  · rename_i l hl
    have hw:=g.wf l (List.mem_of_getElem? hl)
    have hne:=(g.full l (List.mem_of_getElem? hl)).1
    split
    · rename_i hgo
      split
      · rename_i hf
        unfold bE at hf
        rw[hl]at hf
        have e:l.cells.getLast?=some (l.cells.getLast hne):=List.getLast?_eq_some_getLast hne
        simp only[Option.bind_some,e,Bool.and_eq_true]at hf
        have hf:=hf.2
        have hb:(l.cells.getLast hne).w=1:=by
          split at hf
          · rename_i c e' hc he
            simp only[Option.some.injEq]at hc
            subst hc
            simp only[Bool.and_eq_true,Cell.blank?,decide_eq_true_eq]at hf
            exact hf.1.2
          · cases hf
        rw[cr hne]at hw
        exact hw.pop hb
      · exact hw
    · exact hw.strip
  · exact WF.nil
theorem WF.parts{ls:List Ln}(g:Good ls)(i:Nat):WF (aU ls i):=by
  refine WF.flatten fun a ha=>?_
  unfold ad aW at ha
  rw[List.mem_map]at ha
  obtain⟨j,_,rfl⟩:=ha
  exact WF.part g _
theorem dc{ls:List Ln}(g:Good ls)(i:Nat)(hi:i<ls.length):(aU ls i).length≤10000:=by
  have:=cH ls i g.full (aA ls i+1)
  have h2:=cQ ls ls.length i hi
  have h3:=g.len
  unfold aU ad
  unfold aA at*
  lia
theorem de(ps:List (List Cell))(n:Nat):(ps.take n).flatten.length≤ps.flatten.length:=by
  conv=>rhs;rw[←List.take_append_drop n ps]
  rw[List.flatten_append,List.length_append]
  (exact Nat.le_add_right (List.take n ps).flatten.length (List.drop n ps).flatten.length)
theorem nA{ls:List Ln}(g:Good ls)(k:Cur)(i:Nat)(hi:i<ls.length)(hk:k.c≤1000):aG ls k i≤11000:=by
  have h:=dc g i hi
  unfold aG
  split
  · unfold qq
    have h1:∀n,beg (ad ls i) n≤(aU ls i).length:=fun n=>de _ _
    split
    · have:=h1 (k.r-i+1);(exact Nat.sub_le_of_le_add (by first|assumption|omega))
    · have:=h1 (k.r-i);lia
  · (exact Nat.zero_le 11000)
theorem WF.cellsG{ls:List Ln}(g:Good ls)(cols:Nat)(k:Cur)(i:Nat):WF (cellsG ls cols k i):=by
  unfold Mine.Internal.cellsG
  split
  · exact(WF.parts g i).append (WF.rep rfl _)
  · exact WF.parts g i
theorem dg{ls:List Ln}(g:Good ls)(cols:Nat)(k:Cur)(i:Nat)(hi:i<ls.length)(hk:k.c≤1000):(cellsG ls cols k i).length≤12000:=by
  have h:=dc g i hi
  have h2:=nA g k i hi hk
  unfold Mine.Internal.cellsG
  split
  · simp[pad];(exact Nat.le_succ_of_le (by trivial))
  · (exact Nat.le_trans (by trivial) (Nat.le_add_left _ _))
theorem nB{cols:Nat}{p:List Cell}(h:p.length≤cols):(pad cols p).length=cols:=by simp[pad];(exact Nat.add_sub_of_le h)
theorem mh{cols:Nat}{L:Lay}{n:Nat}(o:L.Ok cols n):∀p∈av cols L,p.length≤cols:=by
  intro p hp
  unfold av at hp
  simp only[List.mem_append,List.mem_map,List.mem_singleton]at hp
  rcases hp with⟨q,hq,rfl⟩|rfl
  · exact Nat.le_of_eq (nB (o.done q hq).1)
  · exact o.cur
theorem kU{cols:Nat}{L:Lay}{n:Nat}(o:L.Ok cols n):(av cols L).length≤n+1:=by
  have:=o.many
  simp[av];(assumption)
theorem fu{ls:List Ln}(g:Good ls)(cols:Nat)(hc:0<cols)(k:Cur)(i:Nat):(au ls cols k i).Ok cols (cellsG ls cols k i).length:=by
  obtain⟨h1,h2⟩:=(WF.cellsG g cols k i).parse
  have:=se cols hc _ h2
  rw[h1]at this
  exact this
end Mine.Internal
end
section
set_option genInjectivity true
namespace Mine.Internal
theorem Eo(d:Nat){ls:List Ln}(g:Good ls)(top:Nat)(k:Cur)(hk:k.c≤1000)(i:Nat)(hi:i<ls.length)(u:Cu)(hc:0<u.cols)(hc2:u.cols≤100)(hl1:u.lines.length≤80000)(hl2:u.spots.length≤80000)(hs:bz ls i="single"):
    ∃q σ',exs GT (Ph (d+6)) a6 ([u.own,(be ls i).own,.v (.lst (aq ls)),.v (.int top),.v k.v]++List.replicate 14 .undef)=some (.next,(il ls u.cols top k i u).own::q::.v (.lst (aq ls))::.v (.int top)::.v k.v::σ'):=by
  have hbeg:(be ls i).begins.length=aA ls i+1:=by simp[be,LL.of,ad]
  have hbegs:(be ls i).begins=gz (ad ls i):=rfl
  have hcells:(be ls i).cells=aU ls i:=rfl
  have hfirst:(be ls i).first=i:=rfl
  have hsize:(be ls i).size="single":=hs
  have hwhole:(be ls i).whole=!bm ls (aa ls i):=rfl
  have hc0:=dc g i hi
  have hoff:=nA g k i hi hk
  have hcg:=dg g u.cols k i hi hk
  have o:=fu g u.cols hc k i
  show∃q σ',exs GT (Ph (d+6)) a6 [u.own,(be ls i).own,.v (.lst (aq ls)),.v (.int top),.v k.v,.undef,.undef,.undef,.undef,.undef,.undef,.undef,.undef,.undef,.undef,.undef,.undef,.undef,.undef]=_
  rw[o_]
  generalize hW:be ls i=W at*
  have hlast:((i+aA ls i:Nat):Int)=((aa ls i:Nat):Int):=rfl
  have h0:=z9 (d+6) u W i (aA ls i) hfirst hbeg (.v (.lst (aq ls))) (.v (.int top)) (.v k.v) .undef .undef .undef .undef .undef .undef .undef .undef .undef .undef .undef .undef .undef .undef
  rw[hlast]at h0
  have h4:=z_ (d+3) ls u.cols hc (by(exact Nat.le_trans (by trivial) (Nat.le_add_left _ _))) u rfl W (aU ls i) hcells (WF.parts g i) (by(exact Nat.le_trans (by trivial) (Nat.le_add_left _ _))) (.v (.lst (aq ls))) (.v (.int top)) (.v k.v) (.v (.int u.lines.length)) (.v (.int ((aa ls i:Nat):Int))) (.v (.bool (aX ls k i))) (.v (.int ((aG ls k i:Nat):Int))) (.v (.bool (bA ls k i))) .undef .undef .undef .undef .undef .undef .undef .undef .undef
  have h5:=Ej (d+6) ls k i u W hcells (.v (.lst (aq ls))) (.v (.int top)) (.v (.int u.lines.length)) (.v (.int ((aa ls i:Nat):Int))) (.v (.bool (bA ls k i))) (.v (.lst (ak (b_ ls u.cols i).places))) .undef .undef .undef .undef .undef .undef .undef
  change ex GT (Ph (d+6)) p5 [u.own,W.own,.v (.lst (aq ls)),.v (.int top),.v k.v,.v (.int u.lines.length),.v (.int ((aa ls i:Nat):Int)),.v (.bool (aX ls k i)),.v (.int ((aG ls k i:Nat):Int)),.v (.bool (bA ls k i)),.v (.lst (aL (av u.cols (lay u.cols (parse (aU ls i)))))),.v (.lst (ak (lay u.cols (parse (aU ls i))).places)),.undef,.undef,.undef,.undef,.undef,.undef,.undef]=_ at h5
  -- the cells as they are cut at last
  have h6:ex GT (Ph (d+6)) p6 [u.own,W.own,.v (.lst (aq ls)),.v (.int top),.v k.v,.v (.int u.lines.length),.v (.int ((aa ls i:Nat):Int)),.v (.bool (aX ls k i)),.v (.int ((aG ls k i:Nat):Int)),.v (.bool (bA ls k i)),.v (.lst (aL (av u.cols (b_ ls u.cols i)))),.v (.lst (ak (b_ ls u.cols i).places)),.v (.bool (aC ls u.cols k i)),.undef,.undef,.undef,.undef,.undef,.undef]=
      some (.next,[u.own,LL.own { W with cells:=cellsG ls u.cols k i },.v (.lst (aq ls)),.v (.int top),.v k.v,.v (.int u.lines.length),.v (.int ((aa ls i:Nat):Int)),.v (.bool (aX ls k i)),.v (.int ((aG ls k i:Nat):Int)),.v (.bool (bA ls k i)),.v (.lst (aL (av u.cols (au ls u.cols k i)))),.v (.lst (ak (au ls u.cols k i).places)),.v (.bool (aC ls u.cols k i)),.undef,.undef,.undef,.undef,.undef,.undef]):=by
    cases hb:aX ls k i&&!aC ls u.cols k i with
    |false=>
      have e1:cellsG ls u.cols k i=aU ls i:=by unfold cellsG;rw[hb];rfl
      have e2:au ls u.cols k i=b_ ls u.cols i:=by unfold au b_;rw[e1]
      have e3:({ W with cells:=cellsG ls u.cols k i }:LL)=W:=by rw[e1,←hcells]
      rw[e2,e3]
      exact CA (d+6) _ _ hb _ _ _ _ _ _ _ _ _ _ _ _ _ _ _ _ _
    |true=>
      have e1:cellsG ls u.cols k i=pad (aG ls k i+1) (aU ls i):=by unfold cellsG;rw[hb];rfl
      simp only[Bool.and_eq_true,Bool.not_eq_true']at hb
      rw[hb.1,hb.2]
      exact Ek (d+3) u.cols hc (by lia) u rfl W (aG ls k i) (by(exact Nat.le_trans (by trivial) (Nat.le_add_left _ _))) (cellsG ls u.cols k i) (by rw[e1,hcells]) (WF.cellsG g u.cols k i) (by rw[hcells];(exact Nat.le_trans (by trivial) (Nat.le_add_left _ _))) _ _ _ _ _ _ _ _ _ _ _ _ _ _
  obtain⟨q1,q2,h8⟩:=Em (d+5) u { W with cells:=cellsG ls u.cols k i } u.lines.length (ad ls i) hbegs (au ls u.cols k i) (by simp only[ad,gy];have:=cQ ls ls.length i hi;have:=g.len;unfold aA;(exact Nat.le_succ_of_le (by trivial))) (.v (.lst (aq ls))) (.v (.int top)) (.v k.v) (.v (.int ((aa ls i:Nat):Int))) (.v (.bool (aX ls k i))) (.v (.int ((aG ls k i:Nat):Int))) (.v (.bool (bA ls k i))) (.v (.bool (aC ls u.cols k i))) .undef .undef .undef .undef .undef .undef
  obtain⟨q3,q4,q5,h9⟩:=En (d+1) { u with spots:=u.spots++aO u.cols u.lines.length (ad ls i) (au ls u.cols k i) } { W with cells:=cellsG ls u.cols k i } (av u.cols (au ls u.cols k i)) (mh o) (by simp only;lia) (by simp only;have:=kU o;(exact Nat.le_succ_of_le (by first|assumption|omega))) (.v (.lst (aq ls))) (.v (.int top)) (.v k.v) (.v (.int u.lines.length)) (.v (.int ((aa ls i:Nat):Int))) (.v (.bool (aX ls k i))) (.v (.int ((aG ls k i:Nat):Int))) (.v (.bool (bA ls k i))) (.v (.lst (ak (au ls u.cols k i).places))) (.v (.bool (aC ls u.cols k i))) q1 q2 .undef .undef .undef .undef
  have hng:(!W.whole)=bm ls (aa ls i):=by rw[hwhole,Bool.not_not]
  dsimp only at h9
  rw[hng]at h9
  obtain⟨q6,h10⟩:=CB (d+5) ls top i { u with lines:=u.lines++ay u.cols (av u.cols (au ls u.cols k i)) (bm ls (aa ls i)),spots:=u.spots++aO u.cols u.lines.length (ad ls i) (au ls u.cols k i) } { W with cells:=cellsG ls u.cols k i } hfirst hbegs u.lines.length (au ls u.cols k i) (.v (.lst (aq ls))) (.v k.v) (.v (.bool (aX ls k i))) (.v (.int ((aG ls k i:Nat):Int))) (.v (.bool (bA ls k i))) (.v (.bool (aC ls u.cols k i))) q1 q2 q3 q4 q5 .undef
  dsimp only at h10
  have hcols:∀v:Cu,(bg ls u.cols top i u.lines.length (au ls u.cols k i) v).cols=v.cols:=by intro v;unfold bg;split<;>rfl
  obtain⟨q7,h11⟩:=CC (d+5) ls k i (bg ls u.cols top i u.lines.length (au ls u.cols k i) { u with lines:=u.lines++ay u.cols (av u.cols (au ls u.cols k i)) (bm ls (aa ls i)),spots:=u.spots++aO u.cols u.lines.length (ad ls i) (au ls u.cols k i) }) (.v (LL.obj { W with cells:=cellsG ls u.cols k i })) u.lines.length (au ls u.cols k i) (by rw[hcols];exact hc) (.v (.lst (aq ls))) (.v (.int top)) (.v (.int ((aa ls i:Nat):Int))) q1 q2 q3 q4 q5 q6
  rw[hcols]at h11
  dsimp only at h11 ⊢
  exact⟨_,_,ora [.s _ _,.s _ _,.s _ _,.s _ _,.s _ _,.s _ _,.s _ _,.s _ _,.s _ _,.s _ _,.s _ _,.s _ _] (a2 h0 (a2 (Cy (d+6) u W hsize _ _ _ _ _ _ _ _ _ _ _ _ _ _ _ _ _) (a2 (Eh (d+6) ls k i u.own W hfirst _ _ _ _ _ _ _ _ _ _ _ _ _ _ _) (a2 (Ei (d+4) ls k i u.own W hfirst hbegs _ _ _ _ _ _ _ _ _ _ _ _ _ _ _) (a2 h4 (a2 h5 (a2 h6 (a2 (El (d+6) _ _ _ _ _ _ _ _ _ _ _ _ _ _ _ _ _ _ _) (a2 h8 (a2 h9 (a2 h10 (a2 h11 (a2 rfl rfl)))))))))))):)⟩
theorem Ep(d:Nat){ls:List Ln}(g:Good ls)(top:Nat)(k:Cur)(hk:k.c≤1000)(i:Nat)(hi:i<ls.length)(u:Cu)(hc:0<u.cols)(hc2:u.cols≤100)(hl1:u.lines.length≤80000)(hl2:u.spots.length≤80000):
    ∃q,Ph (d+7) "Cutting.put" [u.own,(be ls i).own,.v (.lst (aq ls)),.v (.int top),.v k.v]=some (.v .none,[(b9 ls u.cols top k i u).own,q,.v (.lst (aq ls)),.v (.int top),.v k.v]):=by
  rw[nj kG rfl]
  unfold b9
  by_cases hs:bz ls i="single"
  · rw[if_pos hs]
    obtain⟨q,σ',h⟩:=Eo d g top k hk i hi u hc hc2 hl1 hl2 hs
    refine⟨q,?_⟩
    show fin 5 (exs GT (Ph (d+6)) a6 ([u.own,(be ls i).own,.v (.lst (aq ls)),.v (.int top),.v k.v]++List.replicate 14 .undef))=_
    rw[h,wu]
    rfl
  · rw[if_neg hs]
    refine⟨(be ls i).own,?_⟩
    show fin 5 (exs GT (Ph (d+6)) a6 [u.own,(be ls i).own,.v (.lst (aq ls)),.v (.int top),.v k.v,.undef,.undef,.undef,.undef,.undef,.undef,.undef,.undef,.undef,.undef,.undef,.undef,.undef,.undef])=_
    have hbeg:(be ls i).begins.length=aA ls i+1:=by simp[be,LL.of,ad]
    rw[o_,aS (z9 (d+6) u (be ls i) i (aA ls i) rfl hbeg _ _ _ _ _ _ _ _ _ _ _ _ _ _ _ _ _)]
    have hm:=List.getElem_mem hi
    rw[qj,Cz d ls top k i u (be ls i) hs rfl hi (by(exact Nat.le_trans (by trivial) (Nat.le_add_left _ _))) (by(exact Nat.le_trans (by trivial) (Nat.le_add_left _ _))) hc hc2 (g.full _ hm).2 (g.wf _ hm) (g.full _ hm).1,jd,sb]
    rfl
end Mine.Internal
end
section
set_option genInjectivity true
namespace Mine.Internal
noncomputable def kW(ls:List Ln)(cols top:Nat)(k:Cur):Nat→Nat→Cu→Cu
  |0,_,u=>u
  |f+1,i,u=>if i<ls.length then kW ls cols top k f (aa ls i+1) (b9 ls cols top k i u)else u
theorem kX(ls:List Ln)(cols top:Nat)(k:Cur)(f i:Nat)(u:Cu):kW ls cols top k (f+1) i u=if i<ls.length then kW ls cols top k f (aa ls i+1) (b9 ls cols top k i u)else u:=rfl
section
variable (ls:List Ln) (cols top:Nat) (k:Cur) (i:Nat) (u:Cu)
@[simp] theorem yS(b:Nat)(L:Lay):(bg ls cols top i b L u).lines=u.lines:=by unfold bg;split<;>rfl
@[simp] theorem yT(b:Nat)(L:Lay):(bg ls cols top i b L u).spots=u.spots:=by unfold bg;split<;>rfl
@[simp] theorem pc(b:Nat)(L:Lay):(bg ls cols top i b L u).cols=u.cols:=by unfold bg;split<;>rfl
@[simp] theorem yU:u.behind.lines=u.lines:=by unfold Cu.behind;split<;>rfl
@[simp] theorem yV:u.behind.spots=u.spots:=by unfold Cu.behind;split<;>rfl
@[simp] theorem Aa:u.behind.cols=u.cols:=by unfold Cu.behind;split<;>rfl
@[simp] theorem yW(b:Nat)(L:Lay):(cj ls cols k i b L u).lines=u.lines:=by unfold cj;cases aX ls k i<;>cases aC ls cols k i<;>cases bA ls k i<;>cases k.w<;>simp
@[simp] theorem yX(b:Nat)(L:Lay):(cj ls cols k i b L u).spots=u.spots:=by unfold cj;cases aX ls k i<;>cases aC ls cols k i<;>cases bA ls k i<;>cases k.w<;>simp
@[simp] theorem Ab(b:Nat)(L:Lay):(cj ls cols k i b L u).cols=u.cols:=by unfold cj;cases aX ls k i<;>cases aC ls cols k i<;>cases bA ls k i<;>cases k.w<;>simp
noncomputable def cS:List Ln:=if bz ls i="single" then ay cols (av cols (au ls cols k i)) (bm ls (aa ls i))else[⟨bl (br ls i) cols,bm ls i&&decide (cols=(br ls i).length),bz ls i⟩]
noncomputable def d0(b:Nat):List Spt:=if bz ls i="single" then aO cols b (ad ls i) (au ls cols k i)else[.other b]
theorem eb:(b9 ls cols top k i u).lines=u.lines++cS ls cols k i:=by
  unfold b9 cS
  split
  · simp[il]
  · rfl
theorem gB:(b9 ls cols top k i u).spots=u.spots++d0 ls cols k i u.lines.length:=by
  unfold b9 d0
  split
  · simp[il]
  · rfl
@[simp] theorem iU:(b9 ls cols top k i u).cols=u.cols:=by
  unfold b9
  split
  · simp[il]
  · rfl
end
theorem pd{ls:List Ln}{i:Nat}(h:aA ls i≠0):bz ls i="single":=by
  have:=e9 ls ls.length i 0 (by unfold aA at h;(exact Nat.zero_lt_of_ne_zero h))
  unfold aR at this
  unfold bz
  rw[Nat.add_zero]at this
  split at this
  · rename_i a b ha hb
    simp only[Bool.and_eq_true,decide_eq_true_eq]at this
    rw[ha]
    exact this.1.2
  · cases this
theorem dC{ls:List Ln}(g:Good ls)(cols:Nat)(hc:0<cols)(k:Cur)(hk:k.c≤1000)(i:Nat)(hi:i<ls.length):(cS ls cols k i).length≤12002:=by
  unfold cS
  split
  · have o:=fu g cols hc k i
    have h1:=kU o
    have h2:=dg g cols k i hi hk
    simp;omega
  · simp
theorem f7(ls:List Ln)(cols:Nat)(k:Cur)(i b:Nat):(d0 ls cols k i b).length=aA ls i+1:=by
  unfold d0
  split
  · simp[ad]
  · rename_i h
    have:aA ls i=0:=Classical.byContradiction fun hm=>h (pd hm)
    simp[this]
theorem tF(st:Bool)(e:E)(l:List LL)(σ:List M)(he:e.temp=true):nv st e (e8 l) σ=some (l.map LL.own,σ):=by
  cases l with
  |nil=>simp[e8,he]
  |cons a r=>simp[e8,he]
noncomputable abbrev iB:List S:=[(.expr (.meth (.var 0) "Cutting" "put" "Cutting.put" [(.var 5),(.var 1),(.var 3),(.var 4)]))]
theorem tG(d:Nat){ls:List Ln}(g:Good ls)(h6:ls.length≤6)(top:Nat)(k:Cur)(hk:k.c≤1000)(cols:Nat)(hc:0<cols)(hc2:cols≤100):
    ∀(f i:Nat) (u:Cu) (x:M),u.cols=cols→u.lines.length≤13000*i→u.spots.length=i→
      ∃q,cw (hH GT (Ph (d+7)) (.var 5) iB) ((ct ls f i).map LL.own) [u.own,.v (.lst (aq ls)),.v (.int cols),.v (.int top),.v k.v,x]=some (.next,[(kW ls cols top k f i u).own,.v (.lst (aq ls)),.v (.int cols),.v (.int top),.v k.v,q]):=by
  intro n_
  induction n_ with
  |zero=>exact fun i u x _ _ _=>⟨x,rfl⟩
  |succ f ih=>
    intro i u x hu hl hs
    rw[me,kX]
    by_cases hi:i<ls.length
    · rw[if_pos hi,if_pos hi]
      subst hu
      obtain⟨q,hp⟩:=Ep d g top k hk i hi u hc hc2 (by lia) (by(exact Nat.le_succ_of_le (by trivial)))
      have hlen:=dC g u.cols hc k hk i hi
      have hge:i≤aa ls i:=by unfold aa;(exact Nat.le_add_right i (aA ls i))
      obtain⟨q2,ih⟩:=ih (aa ls i+1) (b9 ls u.cols top k i u) q (iU ..) (by rw[eb,List.length_append];(exact Nat.le_of_lt (by first|assumption|omega))) (by rw[gB,List.length_append,f7,hs];unfold aa;(exact Eq.symm (Nat.add_assoc i (aA ls i) 1)))
      refine⟨q2,?_⟩
      rw[List.map_cons]
      have h1:hH GT (Ph (d+7)) (.var 5) iB (be ls i).own [u.own,.v (.lst (aq ls)),.v (.int u.cols),.v (.int top),.v k.v,x]=some (.next,[(b9 ls u.cols top k i u).own,.v (.lst (aq ls)),.v (.int u.cols),.v (.int top),.v k.v,q]):=by
        refine kP (σ₁:=[u.own,.v (.lst (aq ls)),.v (.int u.cols),.v (.int top),.v k.v,(be ls i).own]) rfl ?_
        exact ora [.c _ _] (a2 hp (a2 rfl rfl):)
      simp only[cM,h1,Option.bind_some]
      exact ih
    · rw[if_neg hi,if_neg hi]
      exact⟨x,rfl⟩
noncomputable def cu0(cols:Nat):Cu:=⟨cols,[],0,0,0,false,[]⟩
noncomputable def jr(ls:List Ln)(cols top:Nat)(k:Cur):Cu:=kW ls cols top k ls.length 0 (cu0 cols)
theorem kY(d:Nat){ls:List Ln}(g:Good ls)(h6:ls.length≤6)(top:Nat)(k:Cur)(hk:k.c≤1000)(cols:Nat)(hc:0<cols)(hc2:cols≤100):
    Ph (d+8) "Cutting.__init__" [.obj "Cutting" [],.v (.lst (aq ls)),.v (.int cols),.v (.int top),.v k.v]=some (.v .none,[(jr ls cols top k).own,.v (.lst (aq ls)),.v (.int cols),.v (.int top),.v k.v]):=by
  obtain⟨q,h⟩:=tG d g h6 top k hk cols hc hc2 ls.length 0 (cu0 cols) .undef rfl (by simp[cu0]) rfl
  have hl:=nq (d+3) ls g.full g.len
  have he:ev GT (Ph (d+7)) (.call "logical_of" [(.var 1)]) [(cu0 cols).own,.v (.lst (aq ls)),.v (.int cols),.v (.int top),.v k.v,.undef]=some (e8 (ct ls ls.length 0),[(cu0 cols).own,.v (.lst (aq ls)),.v (.int cols),.v (.int top),.v k.v,.undef]):=aM [.c _ _] (a2 hl (a2 rfl rfl):)
  have hf:ex GT (Ph (d+7)) (.for_ (.var 5) (.it (.call "logical_of" [(.var 1)])) iB) [(cu0 cols).own,.v (.lst (aq ls)),.v (.int cols),.v (.int top),.v k.v,.undef]=some (.next,[(jr ls cols top k).own,.v (.lst (aq ls)),.v (.int cols),.v (.int top),.v k.v,q]):=bd (bd he (tF true _ _ _ rfl)) h
  exact aD jp rfl [.k,.k,.k,.k,.k,.k,.k,.s _ _] (a2 hf (a2 rfl rfl):)
end Mine.Internal
end
section
set_option genInjectivity true
namespace Mine.Internal
theorem pf{f:V→List M→Option (Option M×List M)}{σ:List M}{α:Type}{e:α→V}(y:α→V)(xs:List α)(h:∀x∈xs,f (e x) σ=some (some (.v (y x)),σ)):ac f (xs.map e) σ=some ((xs.map y).map .v,σ):=by
  have:=fq (f:=f) (σ:=σ) (e:=e) (fun _=>true) (fun x=>.v (y x)) xs (fun x hx=>by simpa using h x hx)
  rw[this,List.filter_eq_self.mpr (fun _ _=>rfl)]
  simp
theorem pg{f:V→List M→Option (Option M×List M)}{σ:List M}{α:Type}{e:α→V}(p:α→Bool)(y:α→V)(xs:List α)(h:∀x∈xs,f (e x) σ=some (if p x then some (.v (y x))else none,σ)):ac f (xs.map e) σ=some (((xs.filter p).map y).map .v,σ):=by
  have:=fq (f:=f) (σ:=σ) (e:=e) p (fun x=>.v (y x)) xs h
  rw[this]
  simp
theorem iu(i:Nat)(σ:List M)(h:σ[i]?=some .undef):gD (.var i) σ=true:=by show(match σ[i]? with|some .undef=>true|_=>false)=true;rw[h]
theorem qt{G:Tab}{Φ:Phi}{elt c:E}{p:P}{x:V}{σ σ₁ τ:List M}{z:Bool}{y:M}(hb:ey p x σ=some σ₁)(hz:ev G Φ c σ₁=some (.v (.bool z),σ₁))(he:ev G Φ elt σ₁=some (y,σ₁))(ht:(elt.temp||y.isV)=true)(hc:jk p σ₁=τ):bu G Φ elt p (some c) x σ=some (if z then some y else none,τ):=by
  rw[←hc]
  refine bd hb (bd (bd hz rfl) ?_)
  cases z with
  |true=>exact bd he (if_pos ht)
  |false=>rfl
theorem kZ{G:Tab}{Φ:Phi}{elt:E}{p:P}{x:V}{σ σ₁ σ₂ τ:List M}{y:M}(hb:ey p x σ=some σ₁)(he:ev G Φ elt σ₁=some (y,σ₂))(ht:(elt.temp||y.isV)=true)(hc:jk p σ₂=τ):bu G Φ elt p none x σ=some (some y,τ):=by
  rw[←hc]
  exact bd hb (bd (rfl:evC G Φ none σ₁=some (true,σ₁)) (bd he (if_pos ht)))
theorem CD{G:Tab}{Φ:Phi}{e:E}{σ σ':List M}{m:M}{n:Nat}(hc:E.calms G.io [e]=true)(he:ev G Φ e σ=some (m,σ'))(hm:cu "len" [m]=some (.v (.int n))):ev G Φ (.bi "len" [e]) σ=some (.v (.int n),σ'):=by
  refine(if_pos hc).trans (bd (show evA G Φ [e] σ=some ([m],σ')from bd he rfl) ?_)
  show Option.map _ (cu "len" [m])=_
  rw[hm];rfl
theorem fy{G:Tab}{Φ:Phi}{elt:E}{p:P}{s:Src}{c:Option E}{σ σ₁ σ₂:List M}{xs:List V}{zs:List M}(hu:gD p σ=true)(hs:evS G Φ (!(elt.calm G.io&&E.calmO G.io c)) s σ=some (xs.map .v,σ₁))(hr:ac (bu G Φ elt p c) xs σ₁=some (zs,σ₂))(hl:zs.length≤big):ev G Φ (.comp elt p s c) σ=some (bF zs,σ₂):=by
  rw[B8,hu]
  show(evS G Φ _ s σ).bind (cpX G Φ elt p c)=_
  rw[hs,Option.bind_some]
  show(a5 (xs.map .v)).bind (cpY G Φ elt p c σ₁)=_
  rw[l_,Option.bind_some]
  show(ac (bu G Φ elt p c) xs σ₁).bind cpZ=_
  rw[hr]
  exact if_pos hl
theorem sr{G:Tab}{Φ:Phi}{i:Nat}{e:E}{σ σ':List M}{m v:M}(he:ev G Φ e σ=some (m,σ'))(hf:dG m=some v)(hi:i<σ'.length)(ht:(e.temp||m.isV)=true):ex G Φ (.asg (.var i false) e) σ=some (.next,σ'.set i v):=by
  rw[wg,he]
  show gd (e.temp||m.isV) (xaY G Φ (T.var i false) m) σ'=_
  rw[ht]
  show Option.map nXt (if i<σ'.length then(dG m).map fun m=>σ'.set i m else none)=_
  rw[if_pos hi,hf]
  rfl
noncomputable def ew(i:Nat)(p:List Cell):List Tl:=(List.range p.length).map fun j=>(p[j]?.getD ao,i,j)
noncomputable def bQ(ls:List Ln)(i k:Nat):List Tl:=((List.range k).map fun m=>ew (i+m) (ai ls (i+m))).flatten
noncomputable def aB(ls:List Ln)(i:Nat):List Tl:=bQ ls i (aA ls i+1)
theorem dh(ls:List Ln)(i k:Nat):bQ ls i (k+1)=bQ ls i k++ew (i+k) (ai ls (i+k)):=by simp[bQ,List.range_succ]
theorem wH(i:Nat)(p:List Cell):(ew i p).map (·.1)=p:=by
  unfold ew
  rw[List.map_map]
  apply List.ext_getElem?
  intro n
  rw[List.getElem?_map]
  by_cases h:n<p.length
  · simp[h]
  · simp[h]
theorem fA(ls:List Ln)(i:Nat):∀k,(bQ ls i k).map (·.1)=(aW ls i k).flatten
  |0=>rfl
  |k+1=>by rw[dh,cG,List.map_append,fA ls i k,wH];simp
@[simp] theorem wI(i:Nat)(p:List Cell):(ew i p).length=p.length:=by simp[ew]
theorem ph{ls:List Ln}{i:Nat}(h:i<ls.length):ai ls i=ls[i].cells.take (ai ls i).length∧(ai ls i).length≤ls[i].cells.length:=by
  unfold ai
  rw[List.getElem?_eq_getElem h]
  simp only
  split
  · split
    · rw[List.length_dropLast,List.dropLast_eq_take];simp
    · simp
  · unfold strip
    rw[List.length_take,Nat.min_eq_left (ia _ _)]
    exact⟨rfl,ia _ _⟩
noncomputable abbrev tW:S:=.whl (.and [(.cmp .eq (.var 4) (.var 2)),(.cmp .gt (.var 5) (.int 0)),(.cmp .eq (.sub (.sub (.sub (.var 0) (.var 4)) (.int 0)) (.bin .sub (.var 5) (.int 1))) (.glob "_law_plain"))]) [
      (.asg (.var 5 false) (.bin .sub (.var 5) (.int 1)))]
theorem CE(d:Nat)(ls:List Ln)(at_:Nat)(h:at_<ls.length)(A F x:M):∀n,n≤ls[at_].cells.length→∃k,k≤n∧Runs (cJ GT (Ph d) (.and [(.cmp .eq (.var 4) (.var 2)),(.cmp .gt (.var 5) (.int 0)),(.cmp .eq (.sub (.sub (.sub (.var 0) (.var 4)) (.int 0)) (.bin .sub (.var 5) (.int 1))) (.glob "_law_plain"))]) [
      (.asg (.var 5 false) (.bin .sub (.var 5) (.int 1)))]) k [.v (.lst (aj ls)),A,.v (.int (at_:Int)),F,.v (.int (at_:Int)),.v (.int (n:Int)),x] (.next,[.v (.lst (aj ls)),A,.v (.int (at_:Int)),F,.v (.int (at_:Int)),.v (.int (used ls[at_].cells n:Int)),x]):=by
  intro n_
  induction n_ with
  |zero=>exact fun _=>⟨0,Nat.le_refl _,.done (aJ (aM [.b true,.b false] (a2 (decide_eq_true (p:=(at_:Int)=(at_:Int)) rfl) (a2 rfl (a2 rfl rfl)):)))⟩
  |succ n ih=>
    intro hn
    have ha:=dA (ls:=ls) (i:=(at_:Int)) (by(solve_by_elim (maxDepth:=3) [Nat.lt_of_lt_of_le,Nat.le_trans,Nat.add_le_add,Nat.le_add_right,Nat.le_add_left,Nat.sub_le,Nat.min_le_left,Nat.min_le_right,Nat.succ_le_of_lt,Nat.lt_of_succ_le])) (by simp;exact List.getElem?_eq_getElem h)
    have hp:(0:Int)<((n+1:Nat):Int):=by(exact Int.ofNat_le.mpr (by trivial))
    have hsub:((n+1:Nat):Int)-1=(n:Int):=by(exact mu (by trivial))
    have hx:ls[at_].cells[n]?=some ls[at_].cells[n]:=List.getElem?_eq_getElem hn
    have hi:item (.lst (enc ls[at_].cells)) (.v (.int (n:Int)))=some (.v ls[at_].cells[n].v):=b5 (by lia) (by simpa using hx)
    have hc:=ma ls[at_].cells[n]
    rw[used,hx]
    simp only[Option.any_some]
    by_cases hb:ls[at_].cells[n].plain=true
    · rw[if_pos hb]
      rw[hb]at hc
      obtain⟨k,hk,hr⟩:=ih (by(exact Nat.le_of_lt (by trivial)))
      refine⟨k+1,by(exact Nat.lt_succ_of_le (by trivial)),.step ?_ hr⟩
      generalize((n+1:Nat):Int)=q at*
      rw[←hsub]at hi ⊢
      have h0:decide ((at_:Int)=(at_:Int))=true:=decide_eq_true rfl
      have hcl:item (.v ls[at_].lst) (.v (.int 0))=some (.v (.lst (enc ls[at_].cells))):=rfl
      exact ci (σ₁:=[.v (.lst (aj ls)),A,.v (.int (at_:Int)),F,.v (.int (at_:Int)),.v (.int q),x]) (by exact aM [.b true,.b true,.m _,.m _,.m _,.d _] (a2 h0 (a2 (decide_eq_true hp) (a2 ha (a2 hcl (a2 hi (a2 hc (a2 rfl rfl)))))):)) (by exact ora [] (a2 rfl rfl:))
    · rw[if_neg hb]
      rw[Bool.not_eq_true]at hb
      rw[hb]at hc
      refine⟨0,Nat.zero_le _,.done ?_⟩
      generalize((n+1:Nat):Int)=q at*
      rw[←hsub]at hi
      have h0:decide ((at_:Int)=(at_:Int))=true:=decide_eq_true rfl
      have hcl:item (.v ls[at_].lst) (.v (.int 0))=some (.v (.lst (enc ls[at_].cells))):=rfl
      exact aJ (by exact aM [.b true,.b true,.m _,.m _,.m _,.d _] (a2 h0 (a2 (decide_eq_true hp) (a2 ha (a2 hcl (a2 hi (a2 hc (a2 rfl rfl)))))):))
theorem jg(a b:List Tl):ax (a++b)=ax a++ax b:=by simp[ax]
end Mine.Internal
end
section
set_option genInjectivity true
namespace Mine.Internal
noncomputable abbrev tB:List S:=[
    (.asg (.var 5 false) (.bin .sub (.bi "len" [(.sub (.sub (.var 0) (.var 4)) (.int 0))]) (.bi "int" [(.call "_law_is_free" [(.var 0),(.var 4)])]))),
    tW,
    (.ext (.var 3) (.comp (.tup [(.sub (.sub (.sub (.var 0) (.var 4)) (.int 0)) (.var 6)),(.tup [(.var 4),(.var 6)])]) (.var 6) (.rng Option.none (.var 5)) Option.none))]
theorem tH(d:Nat){ls:List Ln}(g:Good ls)(i la at_:Nat)(hat:at_<ls.length)(hla:aR ls at_=true→at_≠la)(hla2:aR ls at_=false→at_=la)(fd:List Tl)(hfd:fd.length≤100000)(x:M):
    exs GT (Ph (d+2)) tB [.v (.lst (aj ls)),.v (.int i),.v (.int la),.lst (ax fd),.v (.int at_),x,.undef]=some (.next,[.v (.lst (aj ls)),.v (.int i),.v (.int la),.lst (ax (fd++ew at_ (ai ls at_))),.v (.int at_),.v (.int ((ai ls at_).length:Int)),.undef]):=by
  have ha:=dA (ls:=ls) (i:=(at_:Int)) (by(solve_by_elim (maxDepth:=3) [Nat.lt_of_lt_of_le,Nat.le_trans,Nat.add_le_add,Nat.le_add_right,Nat.le_add_left,Nat.sub_le,Nat.min_le_left,Nat.min_le_right,Nat.succ_le_of_lt,Nat.lt_of_succ_le])) (by simp;exact List.getElem?_eq_getElem hat)
  have hfr:=f0 d ls at_ hat g.full
  have hb:=aE
  have hcc:item (.v ls[at_].lst) (.v (.int 0))=some (.v (.lst (enc ls[at_].cells))):=rfl
  have hcl:=(g.full _ (List.getElem_mem hat)).2
  have hne:=(g.full _ (List.getElem_mem hat)).1
  obtain⟨hpt,hpl⟩:=ph hat
  have hw:∃n:Int,ev GT (Ph (d+2)) (.bin .sub (.bi "len" [(.sub (.sub (.var 0) (.var 4)) (.int 0))]) (.bi "int" [(.call "_law_is_free" [(.var 0),(.var 4)])])) [.v (.lst (aj ls)),.v (.int i),.v (.int la),.lst (ax fd),.v (.int at_),x,.undef]=some (.v (.int n),[.v (.lst (aj ls)),.v (.int i),.v (.int la),.lst (ax fd),.v (.int at_),x,.undef])∧
      ex GT (Ph (d+2)) tW [.v (.lst (aj ls)),.v (.int i),.v (.int la),.lst (ax fd),.v (.int at_),.v (.int n),.undef]=some (.next,[.v (.lst (aj ls)),.v (.int i),.v (.int la),.lst (ax fd),.v (.int at_),.v (.int ((ai ls at_).length:Int)),.undef]):=by
    cases hgo:aR ls at_ with
    |false=>
      have:=hla2 hgo
      subst this
      have hf:bE ls at_=false:=by unfold bE;rw[hgo];rfl
      rw[hf]at hfr
      refine⟨((enc ls[at_].cells).length:Int)-0,by exact aM [.m _,.m _,.c _ _] (a2 ha (a2 hcc (a2 hfr (a2 rfl rfl))):),?_⟩
      rw[ab,Int.sub_zero]
      obtain⟨k,hk,hr⟩:=CE (d+2) ls at_ hat (.v (.int i)) (.lst (ax fd)) .undef ls[at_].cells.length (Nat.le_refl _)
      have e:(ai ls at_).length=used ls[at_].cells ls[at_].cells.length:=by
        unfold ai
        rw[List.getElem?_eq_getElem hat]
        simp only[hgo,Bool.false_eq_true,if_false]
        unfold strip
        rw[List.length_take,Nat.min_eq_left (ia _ _)]
      rw[e]
      exact b6 hr (by(exact Nat.lt_succ_of_le (by trivial)))
    |true=>
      have hq:=hla hgo
      have hqi:((at_:Int)=(la:Int))=False:=eq_false (by lia)
      refine⟨((ai ls at_).length:Int),?_,?_⟩
      · have e:(ai ls at_).length=if bE ls at_ then ls[at_].cells.length-1 else ls[at_].cells.length:=by
          unfold ai
          rw[List.getElem?_eq_getElem hat]
          simp only[hgo,if_true]
          split<;>simp
        have hpos:=List.length_pos_iff.mpr hne
        rw[e]
        cases hf:bE ls at_ with
        |true=>
          rw[hf]at hfr
          have e2:(ls[at_].cells.length:Int)-1=((ls[at_].cells.length-1:Nat):Int):=by(exact jF (by trivial))
          rw[if_pos rfl,←e2,←ab]
          exact aM [.m _,.m _,.c _ _] (a2 ha (a2 hcc (a2 hfr (a2 rfl rfl))):)
        |false=>
          rw[hf]at hfr
          rw[if_neg Bool.false_ne_true,←ab,←Int.sub_zero ((enc ls[at_].cells).length:Int)]
          exact aM [.m _,.m _,.c _ _] (a2 ha (a2 hcc (a2 hfr (a2 rfl rfl))):)
      · refine ic (fun _=>_) 0 (by(solve_by_elim (maxDepth:=3) [Nat.lt_of_lt_of_le,Nat.le_trans,Nat.add_le_add,Nat.le_add_right,Nat.le_add_left,Nat.sub_le,Nat.min_le_left,Nat.min_le_right,Nat.succ_le_of_lt,Nat.lt_of_succ_le])) rfl (fun k hk=>by(exact absurd (by trivial) (Nat.not_lt.mpr (by trivial)))) (aJ ?_)
        exact aM [.b false] (a2 (dF (of_eq_false hqi)) (a2 rfl rfl):)
  obtain⟨n,h1,h2⟩:=hw
  have hr:=pf (f:=bu GT (Ph (d+2)) (.tup [(.sub (.sub (.sub (.var 0) (.var 4)) (.int 0)) (.var 6)),(.tup [(.var 4),(.var 6)])]) (.var 6) none) (σ:=[.v (.lst (aj ls)),.v (.int i),.v (.int la),.lst (ax fd),.v (.int at_),.v (.int ((ai ls at_).length:Int)),.undef]) (e:=fun(j:Nat)=>V.int (j:Int)) (fun j=>Tl.v ((ai ls at_)[j]?.getD ao,at_,j)) (List.range (ai ls at_).length) (by
    intro j hj
    rw[List.mem_range]at hj
    have hj2:j<ls[at_].cells.length:=by(solve_by_elim (maxDepth:=4) [Nat.lt_of_lt_of_le,Nat.lt_of_le_of_lt,Nat.le_trans,Nat.le_of_lt,Nat.lt_succ_self,Nat.le_refl,Nat.lt_trans])
    have hx:ls[at_].cells[j]?=some ls[at_].cells[j]:=List.getElem?_eq_getElem hj2
    have hi:item (.lst (enc ls[at_].cells)) (.v (.int (j:Int)))=some (.v ls[at_].cells[j].v):=b5 (by lia) (by simpa using hx)
    have e:(ai ls at_)[j]?.getD ao=ls[at_].cells[j]:=by
      rw[hpt,List.getElem?_take]
      rw[if_pos hj,hx];rfl
    rw[e]
    generalize((ai ls at_).length:Int)=q at*
    refine kZ (y:=.v (Tl.v (ls[at_].cells[j],at_,j))) (σ₂:=[.v (.lst (aj ls)),.v (.int i),.v (.int la),.lst (ax fd),.v (.int at_),.v (.int q),.v (.int (j:Int))]) rfl ?_ rfl rfl
    exact aM [.m _,.m _,.m _] (a2 ha (a2 hcc (a2 hi (a2 rfl rfl))):))
  have hrow:((List.range (ai ls at_).length).map fun j=>Tl.v ((ai ls at_)[j]?.getD ao,at_,j))=ax (ew at_ (ai ls at_)):=by simp[ax,ew]
  rw[hrow]at hr
  have hz:(ai ls at_).length≤big:=by lia
  have hlen:(ax (ew at_ (ai ls at_))).length=(ai ls at_).length:=by simp
  have hbg:(ax fd++ax (ew at_ (ai ls at_))).length≤big:=by simp;(exact Nat.le_succ_of_le (by trivial))
  rw[←jD]at hr
  rw[jg]
  have hcm:=fy (s:=.rng none (.var 5)) (iu _ _ rfl) (kR rfl hz) hr (by rw[List.length_map,hlen];exact hz)
  rw[gq]at hcm
  have hst:ex GT (Ph (d+2)) (.asg (.var 5 false) (.bin .sub (.bi "len" [(.sub (.sub (.var 0) (.var 4)) (.int 0))]) (.bi "int" [(.call "_law_is_free" [(.var 0),(.var 4)])]))) [.v (.lst (aj ls)),.v (.int i),.v (.int la),.lst (ax fd),.v (.int at_),x,.undef]=some (.next,[.v (.lst (aj ls)),.v (.int i),.v (.int la),.lst (ax fd),.v (.int at_),.v (.int n),.undef]):=by
    rw[wg,h1];rfl
  rw[aS hst,aS h2]
  exact ora [.m _] (a2 hcm (a2 hbg (a2 rfl rfl)):)
theorem qu(a n:Nat):bt (a:Int) ((a:Int)+(n:Int))=(List.range n).map fun(k:Nat)=>V.int ((a+k:Nat):Int):=by
  unfold bt
  rw[show((a:Int)+(n:Int)-(a:Int)).toNat=n by lia]
  apply List.map_congr_left
  intro k _
  congr 1
theorem tI{ls:List Ln}(g:Good ls)(i:Nat)(k:Nat):(bQ ls i k).length≤100*k:=by
  have h1:=congrArg List.length (fA ls i k)
  rw[List.length_map]at h1
  rw[h1]
  exact cH ls i g.full k
theorem qw(d:Nat){ls:List Ln}(g:Good ls)(i:Nat)(hi:i<ls.length):
    Ph (d+3) "_law_told" [.v (.lst (aj ls)),.v (.int i),.v (.int ((aa ls i:Nat):Int))]=some (.lst (ax (aB ls i)),[.v (.lst (aj ls)),.v (.int i),.v (.int ((aa ls i:Nat):Int))]):=by
  have hlast:=cQ ls ls.length i hi
  have hlen:=g.len
  have hb:=aE
  obtain⟨σ,ht,x,y,hσ⟩:=iS (f:=hH GT (Ph (d+2)) (.var 4) tB) (fun k σ=>∃x y,σ=[.v (.lst (aj ls)),.v (.int i),.v (.int ((aa ls i:Nat):Int)),.lst (ax (bQ ls i k)),x,y,.undef]) (((List.range (aA ls i+1)).map fun(k:Nat)=>V.int ((i+k:Nat):Int)).map .v) 0 (by
      intro k hk σ hσ
      obtain⟨x,y,rfl⟩:=hσ
      rw[Nat.zero_add]
      have hk2:k<aA ls i+1:=by simpa using hk
      have hat:i+k<ls.length:=by unfold aA at hk2;lia
      have ht:=tH d g i (aa ls i) (i+k) hat (fun hgo=>by
          intro e
          unfold aa at e
          have:=nn ls ls.length i (by(solve_by_elim (maxDepth:=3) [Nat.lt_of_lt_of_le,Nat.le_trans,Nat.add_le_add,Nat.le_add_right,Nat.le_add_left,Nat.sub_le,Nat.min_le_left,Nat.min_le_right,Nat.succ_le_of_lt,Nat.lt_of_succ_le]))
          have e2:k=aA ls i:=by lia
          unfold aA at e2
          rw[←e2,hgo]at this
          cases this) (fun hgo=>by
          have h3:¬k<aA ls i:=fun h=>by
            have:=e9 ls ls.length i k h
            rw[hgo]at this;cases this
          unfold aa;lia) (bQ ls i k) (by have:=tI g i k;unfold aA at hk2;omega) y
      rw[←dh]at ht
      refine⟨_,?_,.v (.int ((i+k:Nat):Int)),.v (.int ((ai ls (i+k)).length:Int)),rfl⟩
      rw[List.getElem_map,List.getElem_map,List.getElem_range]
      exact kP rfl ht) [.v (.lst (aj ls)),.v (.int i),.v (.int ((aa ls i:Nat):Int)),.lst [],.undef,.undef,.undef] ⟨.undef,.undef,rfl⟩
  subst hσ
  have e2:0+(((List.range (aA ls i+1)).map fun(k:Nat)=>V.int ((i+k:Nat):Int)).map M.v).length=aA ls i+1:=by simp
  rw[e2]at ht
  have hir:bt (i:Int) (((aa ls i:Nat):Int)+1)=(List.range (aA ls i+1)).map fun(k:Nat)=>V.int ((i+k:Nat):Int):=by
    have:=qu i (aA ls i+1)
    rw[←this]
    congr 1
  have hes:evS GT (Ph (d+2)) true (.rng (some (.var 1)) (.bin .add (.var 2) (.int 1))) [.v (.lst (aj ls)),.v (.int i),.v (.int ((aa ls i:Nat):Int)),.lst [],.undef,.undef,.undef]=some ((((List.range (aA ls i+1)).map fun(k:Nat)=>V.int ((i+k:Nat):Int))).map .v,[.v (.lst (aj ls)),.v (.int i),.v (.int ((aa ls i:Nat):Int)),.lst [],.undef,.undef,.undef]):=by
    rw[←hir]
    have h1:(((aa ls i:Nat):Int)+1-(i:Int)).toNat≤big:=by unfold aa;unfold aA;(exact Nat.le_succ_of_le (by first|assumption|omega))
    have h2:(i:Int).natAbs≤1099511627776:=by lia
    have h3:(((aa ls i:Nat):Int)+1).natAbs≤1099511627776:=by unfold aa;unfold aA;(exact Nat.succ_le_of_lt (by trivial))
    exact if_pos ⟨h1,h2,h3⟩
  have hfor:ex GT (Ph (d+2)) (.for_ (.var 4) (.rng (some (.var 1)) (.bin .add (.var 2) (.int 1))) tB) [.v (.lst (aj ls)),.v (.int i),.v (.int ((aa ls i:Nat):Int)),.lst [],.undef,.undef,.undef]=some (.next,[.v (.lst (aj ls)),.v (.int i),.v (.int ((aa ls i:Nat):Int)),.lst (ax (bQ ls i (aA ls i+1))),x,y,.undef]):=by
    rw[l9,hes,Option.bind_some];exact ht
  exact aD oD rfl [.k,.s _ _] (a2 hfor (a2 rfl rfl):)
end Mine.Internal
end
section
set_option genInjectivity true
namespace Mine.Internal
theorem pi(ls:List Ln)(i k n:Nat)(h:n≤k):(aW ls i k).take n=aW ls i n:=by
  unfold aW
  rw[←List.map_take,List.take_range,Nat.min_eq_left h]
theorem k0(i r:Nat)(p:List Cell):(ew i p).filter (fun t=>decide (t.2.1<r))=if i<r then ew i p else[]:=by
  unfold ew
  by_cases h:i<r
  · rw[if_pos h,List.filter_eq_self]
    intro t ht
    rw[List.mem_map]at ht
    obtain⟨j,_,rfl⟩:=ht
    simpa using h
  · rw[if_neg h,List.filter_eq_nil_iff]
    intro t ht
    rw[List.mem_map]at ht
    obtain⟨j,_,rfl⟩:=ht
    simpa using h
theorem k6(i r:Nat)(p:List Cell):(ew i p).filter (fun t=>decide (t.2.1=r))=if i=r then ew i p else[]:=by
  unfold ew
  by_cases h:i=r
  · rw[if_pos h,List.filter_eq_self]
    intro t ht
    rw[List.mem_map]at ht
    obtain⟨j,_,rfl⟩:=ht
    simpa using h
  · rw[if_neg h,List.filter_eq_nil_iff]
    intro t ht
    rw[List.mem_map]at ht
    obtain⟨j,_,rfl⟩:=ht
    simpa using h
theorem su(ls:List Ln)(i r:Nat)(hr:i≤r):∀k,((bQ ls i k).filter (fun t=>decide (t.2.1<r))).length=(aW ls i (min k (r-i))).flatten.length
  |0=>by simp[bQ,aW]
  |k+1=>by
    rw[dh,List.filter_append,List.length_append,su ls i r hr k,k0]
    by_cases h:i+k<r
    · rw[if_pos h,show min (k+1) (r-i)=k+1 by(exact Nat.min_eq_left (by trivial)),show min k (r-i)=k by(exact Nat.min_eq_left (by trivial)),cG]
      simp
    · rw[if_neg h,show min (k+1) (r-i)=r-i by(exact Nat.le_antisymm (by trivial) (by trivial)),show min k (r-i)=r-i by(exact Nat.min_eq_right (by trivial))]
      simp
theorem yY(ls:List Ln)(i r:Nat)(hr:i≤r):∀k,((bQ ls i k).filter (fun t=>decide (t.2.1=r))).length=if r<i+k then(ai ls r).length else 0:=by
  intro n_
  induction n_ with
  |zero=>exact by simp[bQ];omega
  |succ k ih=>
    rw[dh,List.filter_append,List.length_append,ih,k6]
    by_cases h:i+k=r
    · rw[if_pos h,if_neg (by(exact Nat.not_le.mpr (by trivial))),if_pos (by lia)]
      simp[h]
    · rw[if_neg h]
      by_cases h2:r<i+k
      · rw[if_pos h2,if_pos (by(exact Nat.lt_succ_of_lt (by trivial)))];simp
      · rw[if_neg h2,if_neg (by lia)];simp
theorem mi(ls:List Ln)(i n:Nat)(h:n≤aA ls i+1):beg (ad ls i) n=(aW ls i n).flatten.length:=by
  unfold beg ad
  rw[pi ls i _ n h]
theorem gC{ls:List Ln}{i r:Nat}(h1:i≤r)(h2:r≤aa ls i):((aB ls i).filter (fun t=>decide (t.2.1<r))).length=beg (ad ls i) (r-i):=by
  unfold aa at h2
  unfold aB
  rw[su ls i r h1,mi ls i _ (by(exact Nat.sub_le_of_le_add (by trivial))),show min (aA ls i+1) (r-i)=r-i by(exact Nat.min_eq_right (by trivial))]
theorem fB{ls:List Ln}{i n:Nat}(h:n<(ad ls i).length):(ad ls i)[n]=ai ls (i+n):=by simp[ad,aW]
theorem tJ{ls:List Ln}{i r:Nat}(h1:i≤r)(h2:r≤aa ls i):((aB ls i).filter (fun t=>decide (t.2.1=r))).length=(ai ls r).length:=by
  unfold aa at h2
  unfold aB
  rw[yY ls i r h1,if_pos (by(exact Nat.lt_succ_of_le (by trivial)))]
theorem fC(ls:List Ln)(i:Nat):(aB ls i).map (·.1)=aU ls i:=fA ls i _
theorem bR(ls:List Ln)(i:Nat):(aB ls i).length=(aU ls i).length:=by rw[←fC,List.length_map]
theorem k7{ls:List Ln}(h2:∀l∈ls,2≤l.cells.length){i:Nat}(h:aR ls i=true):0<(ai ls i).length:=by
  have hlt:=dX h
  have:=h2 _ (List.getElem_mem (show i<ls.length by(exact Nat.le_of_lt (by trivial))))
  unfold ai
  rw[List.getElem?_eq_getElem (by lia)]
  simp only[h,if_true]
  split
  · simp;(exact Nat.sub_pos_of_lt (by trivial))
  · (exact Nat.le_of_lt (by trivial))
theorem pj{ls:List Ln}(h2:∀l∈ls,2≤l.cells.length){i r c:Nat}(h1:i≤r)(hr:r≤aa ls i):b8 (ad ls i) (r-i) c=decide (r<aa ls i∧(ai ls r).length≤c):=by
  unfold b8 du
  have hl:(ad ls i).length=aA ls i+1:=by simp[ad]
  by_cases h:r<aa ls i
  · unfold aa at h
    have hlt:r-i<(ad ls i).length:=by(exact Nat.le_of_lt_succ (by trivial))
    rw[if_pos (by lia),List.getElem?_eq_getElem hlt,fB hlt]
    have hg:=e9 ls ls.length i (r-i) (by unfold aA at h;(exact mw (by trivial) (by trivial)))
    rw[show i+(r-i)=r by lia]at hg ⊢
    have hp:=k7 h2 hg
    unfold aa
    simp[h,hp]
  · unfold aa at h hr
    rw[if_neg (by lia)]
    unfold aa
    simp[h]
noncomputable def ca(la a:Nat)(n m:Nat):List Tl:=(List.range m).map fun q=>(ao,la,n+q-a)
noncomputable def aK(ls:List Ln)(cols:Nat)(k:Cur)(i:Nat):List Tl:=if aX ls k i&&!aC ls cols k i then aB ls i++ca (aa ls i) (beg (ad ls i) (k.r-i)) (aB ls i).length (aG ls k i+1-(aB ls i).length)else aB ls i
theorem wJ(la a n m:Nat):(ca la a n m).map (·.1)=List.replicate m ao:=by
  unfold ca
  rw[List.map_map]
  apply List.ext_getElem?
  intro q
  by_cases h:q<m<;>simp[h,List.getElem?_replicate]
theorem mn(ls:List Ln)(cols:Nat)(k:Cur)(i:Nat):(aK ls cols k i).map (·.1)=cellsG ls cols k i:=by
  unfold aK cellsG
  split
  · rw[List.map_append,fC,wJ,bR];rfl
  · exact fC ls i
noncomputable def nC(ls:List Ln)(cols:Nat)(k:Cur)(i:Nat):String:=if aC ls cols k i then "behind" else if bA ls k i then "free" else "on"
end Mine.Internal
end
section
set_option genInjectivity true
namespace Mine.Internal
theorem k8(d:Nat)(σ:List M)(s:Src)(ts:List Tl)(hl:ts.length≤big)(p q:Nat)(cond:E)(hs:evS GT (Ph d) (!(true&&cond.calm GT.io)) s σ=some ((ax ts).map .v,σ))(hc:E.calms GT.io [.comp (.var p) (.tup [(.var p),(.var q)]) s (some cond)]=true)(hu:gD (.tup [.var p,.var q]) σ=true)(f:Tl→Bool)
    (hrow:∀t∈ts,bu GT (Ph d) (.var p) (.tup [(.var p),(.var q)]) (some cond) (Tl.v t) σ=some (if f t then some (.v t.1.v)else none,σ)):
    ev GT (Ph d) (.bi "len" [(.comp (.var p) (.tup [(.var p),(.var q)]) s (some cond))]) σ=some (.v (.int (ts.filter f).length),σ):=by
  have hr:=pg (f:=bu GT (Ph d) (.var p) (.tup [(.var p),(.var q)]) (some cond)) (σ:=σ) (e:=Tl.v) f (fun t=>t.1.v) ts hrow
  have hq:=fy hu hs hr (by rw[List.length_map,List.length_map];exact Nat.le_trans (List.length_filter_le _ _) hl)
  rw[gq]at hq
  exact CD hc hq (congrArg (fun n:Nat=>some (M.v (.int n))) ((List.length_map ..).trans (List.length_map ..)))
theorem wK(D:List (List Cell))(c:List Cell)(pl:List (Nat×Nat)):item (.tup [rpL D c,.lst (ak pl)]) (.v (.int 0))=some (rpL D c):=rfl
noncomputable abbrev kA1:S:=(.asg (.var 4 false) (.bi "len" [(.comp (.var 7) (.tup [(.var 7),(.var 8)]) (.it (.var 0)) (some (.cmp .lt (.sub (.var 8) (.int 0)) (.sub (.var 3) (.int 0)))))]))
noncomputable abbrev kA2:S:=(.asg (.var 5 false) (.bi "len" [(.comp (.var 9) (.tup [(.var 9),(.var 10)]) (.it (.var 0)) (some (.cmp .eq (.sub (.var 10) (.int 0)) (.sub (.var 3) (.int 0)))))]))
theorem wL(d:Nat){ls:List Ln}(g:Good ls)(k:Cur)(i:Nat)(hi:i<ls.length)(hk:aX ls k i=true)(A B x4 x5 x6:M):
    ex GT (Ph d) kA1 [.lst (ax (aB ls i)),A,B,.v k.v,x4,x5,x6,.undef,.undef,.undef,.undef]=some (.next,[.lst (ax (aB ls i)),A,B,.v k.v,.v (.int (beg (ad ls i) (k.r-i))),x5,x6,.undef,.undef,.undef,.undef])∧
    ex GT (Ph d) kA2 [.lst (ax (aB ls i)),A,B,.v k.v,.v (.int (beg (ad ls i) (k.r-i))),x5,x6,.undef,.undef,.undef,.undef]=
      some (.next,[.lst (ax (aB ls i)),A,B,.v k.v,.v (.int (beg (ad ls i) (k.r-i))),.v (.int (ai ls k.r).length),x6,.undef,.undef,.undef,.undef]):=by
  have hb:=aE
  unfold aX at hk
  have hk:=of_decide_eq_true hk
  have hl:(aB ls i).length≤big:=by
    have:=dc g i hi
    rw[bR];(exact Nat.le_trans (by trivial) (Nat.le_add_left _ _))
  have h1:=gC hk.1 hk.2
  have h2:=tJ hk.1 hk.2
  have c1:=k8 d [.lst (ax (aB ls i)),A,B,.v k.v,x4,x5,x6,.undef,.undef,.undef,.undef] (.it (.var 0)) (aB ls i) hl 7 8 (.cmp .lt (.sub (.var 8) (.int 0)) (.sub (.var 3) (.int 0))) rfl rfl rfl (fun t=>decide (t.2.1<k.r)) (by
    intro t _
    exact qt rfl (aM [] (a2 (vb (dlt _ _)) rfl:)) rfl rfl rfl)
  have c2:=k8 d [.lst (ax (aB ls i)),A,B,.v k.v,.v (.int (beg (ad ls i) (k.r-i))),x5,x6,.undef,.undef,.undef,.undef] (.it (.var 0)) (aB ls i) hl 9 10 (.cmp .eq (.sub (.var 10) (.int 0)) (.sub (.var 3) (.int 0))) rfl rfl rfl (fun t=>decide (t.2.1=k.r)) (by
    intro t _
    exact qt rfl (aM [] (a2 (vb (dn _ _)) rfl:)) rfl rfl rfl)
  rw[h1]at c1
  rw[h2]at c2
  exact⟨bd c1 rfl,bd c2 rfl⟩
noncomputable def kC4:E:=(.cmp .le (.bi "len" [(.var 0)]) (.var 6))
noncomputable def kB4:List S:=[
    (.app (.var 0) (.tup [(.glob "_law_plain"),(.tup [(.var 1),(.bin .sub (.bi "len" [(.var 0)]) (.var 4))])]) false)]
theorem wN(d:Nat)(T:List Tl)(la ah off:Nat)(hah:ah≤T.length)(hT:T.length≤100000)(ho:off≤100000)(B C x5 a b c e:M):
    ex GT (Ph d) (.whl kC4 kB4) [.lst (ax T),.v (.int la),B,C,.v (.int ah),x5,.v (.int off),a,b,c,e]=some (.next,[.lst (ax (T++ca la ah T.length (off+1-T.length))),.v (.int la),B,C,.v (.int ah),x5,.v (.int off),a,b,c,e]):=by
  have hb:=aE
  have hpl:∀m,(ca la ah T.length m).length=m:=fun m=>by simp[ca]
  have hps:∀m,ca la ah T.length (m+1)=ca la ah T.length m++[(ao,la,T.length+m-ah)]:=fun m=>by simp[ca,List.range_succ]
  refine ic (fun m=>[.lst (ax (T++ca la ah T.length m)),.v (.int la),B,C,.v (.int ah),x5,.v (.int off),a,b,c,e]) (off+1-T.length) (by(exact Nat.lt_succ_of_lt (by trivial))) (by simp[ca]) (fun m hm=>?_) ?_
  · have hl:((ax (T++ca la ah T.length m)).length:Int)=(T.length:Int)+(m:Int):=by simp[hpl]
    have hs:ax (T++ca la ah T.length m)++[V.tup [ao.v,.tup [.int la,.int (((ax (T++ca la ah T.length m)).length:Int)-(ah:Int))]]]=ax (T++ca la ah T.length (m+1)):=by
      rw[hps,←List.append_assoc,jg _ [_],show((ax (T++ca la ah T.length m)).length:Int)-(ah:Int)=((T.length+m-ah:Nat):Int)by lia];rfl
    exact ci (aM [] (a2 (vb (dT (show((ax (T++ca la ah T.length m)).length:Int)≤(off:Int)by omega))) rfl:)) (ora [.n _] (a2 (show(ax (T++ca la ah T.length m)++[V.tup [ao.v,.tup [.int la,.int (((ax (T++ca la ah T.length m)).length:Int)-(ah:Int))]]]).length≤big by simp[hpl];(exact Nat.lt_succ_of_lt (by first|assumption|omega))) (a2 (ml hs) (a2 rfl rfl)):))
  · have hl:((ax (T++ca la ah T.length (off+1-T.length))).length:Int)=((T.length+(off+1-T.length):Nat):Int):=by simp[hpl]
    exact aJ (aM [] (a2 (vb (dF (show¬((ax (T++ca la ah T.length (off+1-T.length))).length:Int)≤(off:Int)by omega))) rfl:))
theorem pn(d:Nat){ls:List Ln}(g:Good ls)(h2:∀l∈ls,2≤l.cells.length)(cols:Nat)(hc:0<cols)(hcols:cols≤1000)(k:Cur)(hkc:k.c≤1000)(i:Nat)(hi:i<ls.length)(hk:aX ls k i=true):
    Ph (d+3) "_law_cursor_in" [.lst (ax (aB ls i)),.v (.int ((aa ls i:Nat):Int)),.v (.int cols),.v k.v]=
      some (.v (.tup [.int (aG ls k i),.str (nC ls cols k i)]),[.lst (ax (aK ls cols k i)),.v (.int ((aa ls i:Nat):Int)),.v (.int cols),.v k.v]):=by
  have hb:=aE
  have hkk:=of_decide_eq_true (show decide (i≤k.r∧k.r≤aa ls i)=true from hk)
  have hfr:=pj h2 (c:=k.c) hkk.1 hkk.2
  have hc0:=dc g i hi
  have hoff:=nA g k i hi hkc
  have hlt:=nz hk
  have hbs:=ij hlt
  have hpk:(ad ls i)[k.r-i]=ai ls k.r:=by rw[fB hlt,show i+(k.r-i)=k.r by(simp[*])]
  rw[hpk]at hbs
  have hble:beg (ad ls i) (k.r-i)≤(aB ls i).length:=by rw[bR];exact de _ _
  have hL:=(WF.parts g i).parse
  have hlaid:=kS d cols hc hcols (aB ls i) (parse (aU ls i)) (by rw[fC,hL.1]) hL.2 (by rw[hL.1];(exact Nat.le_trans (by trivial) (Nat.le_add_left _ _)))
  have hA:=wL (d+2) g k i hi hk (.v (.int ((aa ls i:Nat):Int))) (.v (.int cols)) .undef .undef .undef
  by_cases hf:k.r<aa ls i∧(ai ls k.r).length≤k.c
  · -- free
    have hfree:bA ls k i=true:=by unfold bA;rw[if_pos hk,hfr];exact decide_eq_true hf
    have hpos:0<(ai ls k.r).length:=by
      refine k7 h2 ?_
      have:=e9 ls ls.length i (k.r-i) (by have:=hf.1;unfold aa aA at this;(exact mw (by first|assumption|omega) (by first|assumption|omega)))
      rwa[show i+(k.r-i)=k.r by(exact qI (by trivial))]at this
    have hofe:aG ls k i=beg (ad ls i) (k.r-i)+(ai ls k.r).length-1:=by
      unfold aG
      rw[if_pos hk]
      unfold qq
      rw[hfr,if_pos (decide_eq_true hf),hbs]
    have hble2:beg (ad ls i) (k.r-i+1)≤(aU ls i).length:=de _ _
    have hbeh:aC ls cols k i=false:=by
      unfold aC
      have:¬(aU ls i).length=aG ls k i:=by lia
      simp[this]
    have hx:aK ls cols k i=aB ls i:=by
      unfold aK
      rw[hk,hbeh]
      have:aG ls k i+1-(aB ls i).length=0:=by rw[bR];(exact Nat.le_antisymm (by trivial) (by trivial))
      rw[this]
      simp[ca]
    have hway:nC ls cols k i="free":=by unfold nC;rw[hbeh,hfree];rfl
    rw[hx,hway,hofe]
    have hz:(decide ((k.r:Int)<((aa ls i:Nat):Int))&&decide (((ai ls k.r).length:Int)≤(k.c:Int)))=true:=by rw[dlt,dle,dT hf.1,dT hf.2];rfl
    have e:M.v (.tup [.int ((beg (ad ls i) (k.r-i):Int)+((ai ls k.r).length:Int)-1),.str "free"])=.v (.tup [.int ((beg (ad ls i) (k.r-i)+(ai ls k.r).length-1:Nat):Int),.str "free"]):=by
      rw[show(beg (ad ls i) (k.r-i):Int)+((ai ls k.r).length:Int)-1=((beg (ad ls i) (k.r-i)+(ai ls k.r).length-1:Nat):Int)by(exact mu (by trivial))]
    exact aD ch rfl [.s _ _,.s _ _,.p,.b true,.n _] (a2 hA.1 (a2 hA.2 (a2 rfl (a2 hz (a2 e (a2 rfl rfl))))):)
  · have hfree:bA ls k i=false:=by unfold bA;rw[if_pos hk,hfr];exact decide_eq_false hf
    have hofe:aG ls k i=beg (ad ls i) (k.r-i)+k.c:=by
      unfold aG
      rw[if_pos hk]
      unfold qq
      rw[hfr,if_neg (by simpa using hf)]
    have z1:(decide ((k.r:Int)<((aa ls i:Nat):Int))&&decide (((ai ls k.r).length:Int)≤(k.c:Int)))=false:=by
      rw[dlt,dle,←Bool.decide_and];exact dF hf
    have n1:M.v (.int ((beg (ad ls i) (k.r-i):Int)+(k.c:Int)))=.v (.int (aG ls k i:Nat)):=vi (by rw[hofe];rfl)
    have hbeq:aC ls cols k i=(!k.w&&decide ((aB ls i).length=aG ls k i∧0<(aB ls i).length)&&decide ((b_ ls cols i).cur.length=cols)):=by
      unfold aC
      rw[hk,bR]
      by_cases q1:(aU ls i).length=aG ls k i<;>by_cases q2:0<(aU ls i).length<;>simp[q1,q2]
    have hind:(M.indep (.tup [rpL (b_ ls cols i).done (b_ ls cols i).cur,.lst (ak (b_ ls cols i).places)])&&[false,false].all (!·))=true:=by
      have:=ip ((b_ ls cols i).done++[(b_ ls cols i).cur])
      rw[List.map_append]at this
      unfold rpL
      simp
      simpa using this
    have z3:(!k.w&&((decide (((aG ls k i:Nat):Int)=((ax (aB ls i)).length:Int))&&decide ((0:Int)<((ax (aB ls i)).length:Int)))&&decide (((enc (b_ ls cols i).cur).length:Int)=(cols:Int))))=aC ls cols k i:=by
      rw[hbeq,ig,ab,dn,dps,dn,decide_eq_decide.mpr (eq_comm (a:=aG ls k i)),←Bool.decide_and,Bool.and_assoc]
    have hri:=ii (b_ ls cols i).done (b_ ls cols i).cur
    have hr0:=wK (b_ ls cols i).done (b_ ls cols i).cur (b_ ls cols i).places
    have hlaid:Ph (d+2) "_law_laid" [.v (.lst (ax (aB ls i))),.v (.int cols)]=some (.tup [rpL (b_ ls cols i).done (b_ ls cols i).cur,.lst (ak (b_ ls cols i).places)],[.v (.lst (ax (aB ls i))),.v (.int cols)]):=hlaid
    cases hbh:aC ls cols k i with
    |true=>
      have hx:aK ls cols k i=aB ls i:=by unfold aK;rw[hk,hbh];rfl
      have hway:nC ls cols k i="behind":=by unfold nC;rw[hbh];rfl
      rw[hx,hway]
      exact aD ch rfl [.s _ _,.s _ _,.p,.b false,.n _,.p,.p,.p,.c _ _,.m _,.m _,.b true] (a2 hA.1 (a2 hA.2 (a2 rfl (a2 z1 (a2 n1 (a2 rfl (a2 hlaid (a2 hind (a2 hr0 (a2 hri (a2 rfl (a2 rfl (a2 (z3.trans hbh) (a2 rfl rfl))))))))))))):)
    |false=>
      have hx:aK ls cols k i=aB ls i++ca (aa ls i) (beg (ad ls i) (k.r-i)) (aB ls i).length (aG ls k i+1-(aB ls i).length):=by unfold aK;rw[hk,hbh];rfl
      have hway:nC ls cols k i="on":=by unfold nC;rw[hbh,hfree];rfl
      have s4:=wN (d+2) (aB ls i) (aa ls i) (beg (ad ls i) (k.r-i)) (aG ls k i) hble (by rw[bR];lia) (by(exact Nat.le_trans (by trivial) (Nat.le_add_left _ _))) (.v (.int cols)) (.v k.v) (.v (.int (ai ls k.r).length)) .undef .undef .undef .undef
      rw[←hx]at s4
      rw[hway]
      exact aD ch rfl [.s _ _,.s _ _,.p,.b false,.n _,.p,.p,.p,.c _ _,.m _,.m _,.b false,.s _ _] (a2 hA.1 (a2 hA.2 (a2 rfl (a2 z1 (a2 n1 (a2 rfl (a2 hlaid (a2 hind (a2 hr0 (a2 hri (a2 rfl (a2 rfl (a2 (z3.trans hbh) (a2 s4 (a2 rfl rfl)))))))))))))):)
end Mine.Internal
end
section
set_option genInjectivity true
namespace Mine.Internal
noncomputable abbrev g0:S:=(.asg (.tup [(.var 7 true),(.var 8 false)]) (.tup [(.call "_law_told" [(.var 1),(.var 2),(.var 3)]),(.bi "len" [(.sub (.var 0) (.str "lines"))])]))
noncomputable abbrev g1:S:=(.asg (.var 9 false) (.cmp2 .le .le (.var 2) (.sub (.var 6) (.int 0)) (.var 3)))
noncomputable abbrev g2:S:=(.asg (.tup [(.var 10 false),(.var 11 false)]) (.ite (.var 9) (.call "_law_cursor_in" [(.var 7),(.var 3),(.var 4),(.var 6)]) (.tup [(.int 0),(.str "")])))
noncomputable abbrev g3:S:=(.asg (.tup [(.var 12 false),(.var 13 false)]) (.call "_law_laid" [(.var 7),(.var 4)]))
noncomputable abbrev g4:S:=(.for_ (.tup [(.var 14),(.var 15)]) (.enum (.var 12)) [
    (.asg (.var 16 false) (.or [(.cmp .lt (.bin .add (.var 14) (.int 1)) (.bi "len" [(.var 12)])),(.sub (.sub (.var 1) (.var 3)) (.int 1))])),
    (.app (.sub (.var 0) (.str "lines")) (.lst [(.bin .add (.var 15) (.bin .mul (.lst [(.glob "_law_plain")]) (.bin .sub (.var 4) (.bi "len" [(.var 15)])))),(.var 16),(.str "single")]) false)])
noncomputable abbrev g5:S:=(.frz (.var 7))
noncomputable abbrev g6:S:=(.for_ (.tup [(.tup [(.var 17),(.var 18)]),(.var 19)]) (.zip (.var 7) (.var 13)) [
    (.app (.sub (.var 0) (.str "places")) (.tup [(.sub (.var 18) (.int 0)),(.sub (.var 18) (.int 1)),(.tup [(.bin .add (.var 8) (.sub (.var 19) (.int 0))),(.sub (.var 19) (.int 1))])]) false)])
noncomputable abbrev g7:S:=(.ite (.cmp2 .le .le (.var 2) (.var 5) (.var 3)) [
    (.asg (.var 20 false) (.bi "len" [(.comp (.var 25) (.tup [(.var 25),(.var 26)]) (.it (.var 7)) (some (.cmp .lt (.sub (.var 26) (.int 0)) (.var 5))))])),
    (.asg (.sub (.var 0) (.str "first")) (.bin .add (.var 8) (.ite (.cmp .lt (.var 20) (.bi "len" [(.var 7)])) (.sub (.sub (.var 13) (.var 20)) (.int 0)) (.bin .sub (.bi "len" [(.var 12)]) (.int 1)))))] [])
noncomputable abbrev g8:S:=(.ite (.cmp .eq (.var 11) (.str "behind")) [
    (.asg (.sub (.var 0) (.str "spot")) (.tup [(.bin .sub (.bin .add (.var 8) (.bi "len" [(.var 12)])) (.int 1)),(.bin .sub (.var 4) (.int 1)),(.bool true)]))] [
    (.ite (.var 9) [
      (.asg (.tup [(.var 21 false),(.var 22 false)]) (.sub (.var 13) (.var 10))),
      (.asg (.var 23 false) (.or [(.cmp .eq (.var 11) (.str "free")),(.sub (.var 6) (.int 2))])),
      (.asg (.var 24 false) (.cmp .eq (.bin .add (.var 22) (.int 1)) (.var 4))),
      (.asg (.sub (.var 0) (.str "spot")) (.tup [(.bin .add (.var 8) (.var 21)),(.bin .add (.var 22) (.bi "int" [(.and [(.var 23),(.not (.var 24))])])),(.and [(.cmp .eq (.var 11) (.str "on")),(.sub (.var 6) (.int 2)),(.var 24)])]))] [])])
noncomputable abbrev o1:S:=(.asg (.var 9 true) (.slc (.var 6) Option.none (some (.var 3))))
noncomputable abbrev o2:S:=(.ite (.cmp .eq (.sub (.sub (.var 9) (.neg (.int 1))) (.int 1)) (.int 2)) [
    (.asg (.sub (.var 9) (.neg (.int 1))) (.call "_law_bare" [(.sub (.sub (.var 9) (.neg (.int 1))) (.int 2))]))] [])
noncomputable abbrev o3:S:=(.asg (.var 10 false) (.bi "len" [(.sub (.var 0) (.str "lines"))]))
noncomputable abbrev o5:S:=(.for_ (.var 11) (.rng Option.none (.bi "len" [(.var 6)])) [
    (.app (.sub (.var 0) (.str "places")) (.tup [(.var 2),(.var 11),(.tup [(.var 10),(.bi "min" [(.var 11),(.bin .sub (.var 3) (.int 1))])])]) false)])
noncomputable abbrev q0:S:=(.asg (.var 1 true) (.dct [("cells",(.comp (.bin .mod (.bi "int" [(.var 18)]) (.bin .pow (.int 10) (.int 9))) (.var 18) (.it (.slc (.var 0) Option.none (some (.int 63)))) Option.none)),("place",(.int 0))]))
noncomputable abbrev q1:S:=(.asg (.tup [(.var 2 false),(.var 3 false)]) (.tup [(.bin .add (.int 2) (.call "_law_take" [(.var 1),(.int 4)])),(.bin .add (.int 1) (.call "_law_take" [(.var 1),(.int 6)]))]))
noncomputable abbrev q2:S:=(.asg (.var 4 false) (.comp (.call "_law_line" [(.var 1),(.var 2)]) (.var 19) (.rng Option.none (.var 3)) Option.none))
noncomputable abbrev q3:S:=(.asg (.var 5 false) (.call "_law_take" [(.var 1),(.var 3)]))
noncomputable abbrev q4:S:=(.asg (.var 6 false) (.bin .add (.var 5) (.call "_law_take" [(.var 1),(.bin .sub (.var 3) (.var 5))])))
noncomputable abbrev q5:S:=(.asg (.var 7 false) (.ite (.cmp .eq (.sub (.sub (.var 4) (.var 6)) (.int 2)) (.str "single")) (.var 2) (.bin .fdiv (.var 2) (.int 2))))
noncomputable abbrev q6:S:=(.asg (.tup [(.var 8 false),(.var 9 false)]) (.tup [(.call "_law_take" [(.var 1),(.var 7)]),(.cmp .eq (.call "_law_take" [(.var 1),(.int 2)]) (.int 1))]))
noncomputable abbrev q7:S:=(.asg (.var 10 false) (.tup [(.var 6),(.var 8),(.and [(.var 9),(.cmp .eq (.bin .add (.var 8) (.int 1)) (.var 7)),(.not (.call "_law_is_free" [(.var 4),(.var 6)]))])]))
noncomputable abbrev q8:S:=(.asg (.tup [(.var 11 false),(.var 12 false)]) (.tup [(.bin .add (.int 1) (.call "_law_take" [(.var 1),(.int 6)])),(.bin .add (.int 1) (.call "_law_take" [(.var 1),(.int 5)]))]))
noncomputable abbrev q9:S:=(.asg (.var 13 false) (.comp (.call "line_of" [(.var 20),(.var 21),(.var 22)]) (.tup [(.var 20),(.var 21),(.var 22)]) (.it (.var 4)) Option.none))
noncomputable abbrev q10:S:=(.asg (.tup [(.var 14 true),(.var 15 true)]) (.tup [(.new "Cutting" "Cutting.__init__" [(.var 13),(.var 11),(.var 5),(.var 10)]),(.call "_law_cut" [(.var 4),(.var 11),(.var 5),(.var 10)])]))
noncomputable abbrev q11:S:=(.ite (.or [(.cmp .ne (.call "_law_seen" [(.attr (.var 14) "lines")]) (.sub (.var 15) (.str "lines"))),(.cmp .ne (.call "_law_seen" [(.var 13)]) (.var 4))]) [
    (.ret (some (.bool false)))] [])
noncomputable abbrev q12:S:=(.ite (.cmp .ne (.tup [(.attr (.var 14) "first"),(.tup [(.attr (.var 14) "row"),(.attr (.var 14) "column"),(.attr (.var 14) "is_waiting")])]) (.tup [(.sub (.var 15) (.str "first")),(.sub (.var 15) (.str "spot"))])) [
    (.ret (some (.bool false)))] [])
noncomputable abbrev q13:S:=(.frz (.sub (.var 15) (.str "places")))
noncomputable abbrev q14:S:=(.for_ (.tup [(.var 16),(.var 8),(.var 17)]) (.it (.sub (.var 15) (.str "places"))) [
    (.ite (.cmp .ne (.meth (.var 14) "Cutting" "place_of" "Cutting.place_of" [(.var 16),(.var 8)]) (.var 17)) [
      (.ret (some (.bool false)))] [])])
noncomputable abbrev q15:S:=(.ite (.or [(.cmp .isn (.meth (.var 14) "Cutting" "place_of" "Cutting.place_of" [(.var 3),(.int 0)]) .none),(.cmp .isn (.meth (.var 14) "Cutting" "place_of" "Cutting.place_of" [(.neg (.int 1)),(.int 0)]) .none)]) [
    (.ret (some (.bool false)))] [])
noncomputable abbrev q16:S:=(.ret (some (.call "_law_rest" [(.var 14),(.var 15),(.var 12),(.var 11)])))
theorem wO:qR=[q0,q1,q2,q3,q4,q5,q6,q7,q8,q9,q10,q11,q12,q13,q14,q15,q16]:=rfl
end Mine.Internal
end
section
set_option genInjectivity true
namespace Mine.Internal
noncomputable abbrev Pl:=Nat×Nat×Nat×Nat
noncomputable def Pl.v(p:Pl):V:=.tup [.int p.1,.int p.2.1,.tup [.int p.2.2.1,.int p.2.2.2]]
noncomputable def dD(l:List Pl):List V:=l.map Pl.v
@[simp] theorem Er(l:List Pl):(dD l).length=l.length:=by simp[dD]
noncomputable def wM(u:Cu)(ps:List Pl):M:=.dct [("lines",.lst (aj u.lines)),("places",.lst (dD ps)),("first",.v (.int u.first)),("spot",.v (.tup [.int u.row,.int u.col,.bool u.wait]))]
theorem Es(d:Nat){ls:List Ln}(g:Good ls)(i:Nat)(hi:i<ls.length)(u:Cu)(ps:List Pl)(A B C x7 x8 x9 x10 x11 x12 x13 x14 x15 x16 x17 x18 x19 x20 x21 x22 x23 x24 x25 x26:M):
    ex GT (Ph (d+3)) g0 [wM u ps,.v (.lst (aj ls)),.v (.int i),.v (.int ((aa ls i:Nat):Int)),A,B,C,x7,x8,x9,x10,x11,x12,x13,x14,x15,x16,x17,x18,x19,x20,x21,x22,x23,x24,x25,x26]=
      some (.next,[wM u ps,.v (.lst (aj ls)),.v (.int i),.v (.int ((aa ls i:Nat):Int)),A,B,C,.lst (ax (aB ls i)),.v (.int u.lines.length),x9,x10,x11,x12,x13,x14,x15,x16,x17,x18,x19,x20,x21,x22,x23,x24,x25,x26]):=by
  have h:=qw d g i hi
  exact aI [.c _ _,.k,.n _] (a2 h (a2 (vi (congrArg Int.ofNat (b7 u.lines))) (a2 rfl rfl)):)
theorem Et(d:Nat)(ls:List Ln)(k:Cur)(i:Nat)(W A B C x7 x8 x9 x10 x11 x12 x13 x14 x15 x16 x17 x18 x19 x20 x21 x22 x23 x24 x25 x26:M):
    ex GT (Ph d) g1 [W,A,.v (.int i),.v (.int ((aa ls i:Nat):Int)),B,C,.v k.v,x7,x8,x9,x10,x11,x12,x13,x14,x15,x16,x17,x18,x19,x20,x21,x22,x23,x24,x25,x26]=
      some (.next,[W,A,.v (.int i),.v (.int ((aa ls i:Nat):Int)),B,C,.v k.v,x7,x8,.v (.bool (aX ls k i)),x10,x11,x12,x13,x14,x15,x16,x17,x18,x19,x20,x21,x22,x23,x24,x25,x26]):=by
  have e:M.v (.bool (decide ((i:Int)≤(k.r:Int))&&decide ((k.r:Int)≤((aa ls i:Nat):Int))))=.v (.bool (aX ls k i)):=vb (by rw[dle,dle];exact(Bool.decide_and ..).symm)
  exact aI [.p,.n _] (a2 rfl (a2 e (a2 rfl rfl)):)
noncomputable def pp(ls:List Ln)(cols:Nat)(k:Cur)(i:Nat):String:=if aX ls k i then nC ls cols k i else ""
theorem Eu(d:Nat){ls:List Ln}(g:Good ls)(h2:∀l∈ls,2≤l.cells.length)(cols:Nat)(hc:0<cols)(hcols:cols≤1000)(k:Cur)(hkc:k.c≤1000)(i:Nat)(hi:i<ls.length)(W A B C x8 x10 x11 x12 x13 x14 x15 x16 x17 x18 x19 x20 x21 x22 x23 x24 x25 x26:M):
    ex GT (Ph (d+3)) g2 [W,A,B,.v (.int ((aa ls i:Nat):Int)),.v (.int cols),C,.v k.v,.lst (ax (aB ls i)),x8,.v (.bool (aX ls k i)),x10,x11,x12,x13,x14,x15,x16,x17,x18,x19,x20,x21,x22,x23,x24,x25,x26]=
      some (.next,[W,A,B,.v (.int ((aa ls i:Nat):Int)),.v (.int cols),C,.v k.v,.lst (ax (aK ls cols k i)),x8,.v (.bool (aX ls k i)),.v (.int (aG ls k i:Nat)),.v (.str (pp ls cols k i)),x12,x13,x14,x15,x16,x17,x18,x19,x20,x21,x22,x23,x24,x25,x26]):=by
  unfold pp
  cases hh:aX ls k i with
  |false=>
    have e1:aK ls cols k i=aB ls i:=by unfold aK;rw[hh];rfl
    have e2:aG ls k i=0:=by unfold aG;rw[hh];rfl
    rw[e1,e2]
    exact aI [.b false] (a2 rfl (a2 rfl rfl):)
  |true=>
    have h:=pn d g h2 cols hc hcols k hkc i hi hh
    exact aI [.b true,.c _ _] (a2 rfl (a2 h (a2 rfl rfl)):)
noncomputable def cR(L:Lay):List (List Cell):=L.done++[L.cur]
theorem yZ(D:List (List Cell))(c:List Cell):dG (rpL D c)=some (.v (.lst (aL (D++[c])))):=by
  have:=o9 (D++[c])
  rw[List.map_append]at this
  exact this
theorem y0(D:List (List Cell))(c:List Cell):(rpL D c).indep=true:=by
  have:=ip (D++[c])
  rw[List.map_append]at this
  unfold rpL
  rw[o8]
  exact this
theorem Ev(d:Nat){ls:List Ln}(g:Good ls)(cols:Nat)(hc:0<cols)(hcols:cols≤1000)(k:Cur)(hkc:k.c≤1000)(i:Nat)(hi:i<ls.length)(W A B C D E x8 x9 x10 x11 x12 x13 x14 x15 x16 x17 x18 x19 x20 x21 x22 x23 x24 x25 x26:M):
    ex GT (Ph (d+2)) g3 [W,A,B,C,.v (.int cols),D,E,.lst (ax (aK ls cols k i)),x8,x9,x10,x11,x12,x13,x14,x15,x16,x17,x18,x19,x20,x21,x22,x23,x24,x25,x26]=
      some (.next,[W,A,B,C,.v (.int cols),D,E,.lst (ax (aK ls cols k i)),x8,x9,x10,x11,.v (.lst (aL (cR (au ls cols k i)))),.v (.lst (ak (au ls cols k i).places)),x14,x15,x16,x17,x18,x19,x20,x21,x22,x23,x24,x25,x26]):=by
  have hL:=(WF.cellsG g cols k i).parse
  have hlen:=dg g cols k i hi hkc
  have h:=kS d cols hc hcols (aK ls cols k i) (parse (cellsG ls cols k i)) (by rw[mn,hL.1]) hL.2 (by rw[hL.1];(exact Nat.le_trans (by trivial) (Nat.le_add_left _ _)))
  have h:Ph (d+2) "_law_laid" [.v (.lst (ax (aK ls cols k i))),.v (.int cols)]=some (.tup [rpL (au ls cols k i).done (au ls cols k i).cur,.lst (ak (au ls cols k i).places)],[.v (.lst (ax (aK ls cols k i))),.v (.int cols)]):=h
  have hf:=yZ (au ls cols k i).done (au ls cols k i).cur
  have hi:=y0 (au ls cols k i).done (au ls cols k i).cur
  have hq:((M.tup [rpL (au ls cols k i).done (au ls cols k i).cur,.lst (ak (au ls cols k i).places)]).indep&&(GT.io "_law_laid").all fun x=>!x)=true:=by
    show((M.indep _&&_)&&_)=true
    rw[hi];simp
  exact sq (aM [.c _ _] (a2 h (a2 hq (a2 rfl rfl)):)) hf rfl rfl rfl
theorem nD(a b:List V)(h:(a++b).length≤big):a9 .add (.v (.lst a)) (.lst b)=some (.lst (a++b)):=by
  show(Option.bind (M.list? (.v (.lst a))) fun x=>Option.bind (M.list? (.lst b)) fun y=>(bG (x++y)).map M.lst)=_
  simp only[l_l,l_v,Option.bind_some,bG,if_pos h,Option.map_some]
theorem wP(cols:Nat)(p:List Cell)(hp:p.length≤cols)(hc:cols≤1000):∃z,a9 .mul (.lst [.tup [.tup [],.int 1,bK,.bool false]]) (.v (.int ((cols:Int)-(p.length:Int))))=some (.lst z)∧a9 .add (.v (.lst (enc p))) (.lst z)=some (.lst (enc (pad cols p)))∧a9 .add (.lst (enc p)) (.lst z)=some (.lst (enc (pad cols p))):=by
  have hb:=aE
  refine⟨_,jC _ _ (by lia) (by lia),?_,?_⟩
  · rw[nD _ _ (by simp;(exact Nat.le_succ_of_le (by trivial))),show((cols:Int)-(p.length:Int)).toNat=cols-p.length by(exact Int.toNat_sub _ _)]
    unfold pad
    rw[aN,jB];rfl
  · rw[gu _ _ (by simp;lia),show((cols:Int)-(p.length:Int)).toNat=cols-p.length by lia]
    unfold pad
    rw[aN,jB];rfl
end Mine.Internal
end
section
set_option genInjectivity true
namespace Mine.Internal
noncomputable abbrev g4B:List S:=[
    (.asg (.var 16 false) (.or [(.cmp .lt (.bin .add (.var 14) (.int 1)) (.bi "len" [(.var 12)])),(.sub (.sub (.var 1) (.var 3)) (.int 1))])),
    (.app (.sub (.var 0) (.str "lines")) (.lst [(.bin .add (.var 15) (.bin .mul (.lst [(.glob "_law_plain")]) (.bin .sub (.var 4) (.bi "len" [(.var 15)])))),(.var 16),(.str "single")]) false)]
theorem nE(cols:Nat){L:Lay}{n:Nat}(o:L.Ok cols n)(g:Bool):ay cols (cR L) g=ay cols (av cols L) g:=by
  unfold ay
  have hl:(cR L).length=(av cols L).length:=by simp[cR,av]
  rw[hl]
  apply List.map_congr_left
  intro m hm
  rw[List.mem_range]at hm
  congr 1
  unfold cR av
  by_cases h:m<L.done.length
  · rw[List.getElem?_append_left h,List.getElem?_append_left (by simpa using h),List.getElem?_map,List.getElem?_eq_getElem h]
    simp only[Option.map_some,Option.getD_some]
    have:=(o.done _ (List.getElem_mem h)).1
    rw[oY (p:=pad cols L.done[m]) (by rw[nB this];exact Nat.le_refl _)]
  · rw[List.getElem?_append_right (by lia),List.getElem?_append_right (by simpa using h)]
    simp
theorem Ew(d:Nat){ls:List Ln}(u:Cu)(ps:List Pl)(ac:List (List Cell))(la:Nat)(hla:la<ls.length)(cols:Nat)(hr:∀p∈ac,p.length≤cols)(hc:cols≤1000)(hs:u.lines.length+ac.length≤200000)(A C D x7 x8 x9 x10 x11 x13 x14 x15 x16 x17 x18 x19 x20 x21 x22 x23 x24 x25 x26:M):
    ∃p q r,ex GT (Ph d) g4 [wM u ps,.v (.lst (aj ls)),A,.v (.int la),.v (.int cols),C,D,x7,x8,x9,x10,x11,.v (.lst (aL ac)),x13,x14,x15,x16,x17,x18,x19,x20,x21,x22,x23,x24,x25,x26]=
      some (.next,[wM { u with lines:=u.lines++ay cols ac (bm ls la) } ps,.v (.lst (aj ls)),A,.v (.int la),.v (.int cols),C,D,x7,x8,x9,x10,x11,.v (.lst (aL ac)),x13,p,q,r,x17,x18,x19,x20,x21,x22,x23,x24,x25,x26]):=by
  have hbig:=aE
  have hL:ls[la]?=some ls[la]:=List.getElem?_eq_getElem hla
  have ha:=dA (ls:=ls) (i:=(la:Int)) (by(solve_by_elim (maxDepth:=3) [Nat.lt_of_lt_of_le,Nat.le_trans,Nat.add_le_add,Nat.le_add_right,Nat.le_add_left,Nat.sub_le,Nat.min_le_left,Nat.min_le_right,Nat.succ_le_of_lt,Nat.lt_of_succ_le])) (by rw[Int.toNat_natCast];exact hL)
  have hgo:bm ls la=ls[la].goes:=by simp[bm,hL]
  rw[hgo]
  obtain⟨τ,ht,p,q,r,rfl⟩:=fj (G:=GT) (Φ:=Ph d) (p:=.tup [(.var 14),(.var 15)]) (s:=.enum (.var 12)) (b:=g4B) (σ:=[wM u ps,.v (.lst (aj ls)),A,.v (.int la),.v (.int cols),C,D,x7,x8,x9,x10,x11,.v (.lst (aL ac)),x13,x14,x15,x16,x17,x18,x19,x20,x21,x22,x23,x24,x25,x26])
    (fun k σ=>∃p q r,σ=[wM { u with lines:=u.lines++(ay cols ac ls[la].goes).take k } ps,.v (.lst (aj ls)),A,.v (.int la),.v (.int cols),C,D,x7,x8,x9,x10,x11,.v (.lst (aL ac)),x13,p,q,r,x17,x18,x19,x20,x21,x22,x23,x24,x25,x26]) rfl ⟨x14,x15,x16,by rw[List.take_zero,List.append_nil]⟩ (by
      rintro k hk _ ⟨p,q,r,rfl⟩
      have hk2:k<ac.length:=by simpa using hk
      have hk3:k<(aL ac).length:=by simpa using hk2
      have hg:(aL ac)[k]=.lst (enc ac[k]):=by simp[aL]
      rw[ny (aL ac) k hk hk3,hg]
      have hk5:k<(ay cols ac ls[la].goes).length:=by simpa using hk2
      have hp:=dZ Ln.lst u.lines (ay cols ac ls[la].goes) k hk5 (by simp;(exact Nat.le_trans (by trivial) (Nat.le_add_left _ _)))
      rw[ir]at hp
      obtain⟨h1,h2⟩:=hY hp
      obtain⟨z,hz1,hz2,_⟩:=wP cols ac[k] (hr _ (List.getElem_mem hk2)) hc
      rw[←ab ac[k]]at hz1
      have e:M.v (.bool (decide ((k:Int)+1<((aL ac).length:Int))||ls[la].goes))=.v (.bool (decide (k+1<ac.length)||ls[la].goes)):=vb (by rw[fb];exact congrArg (· ||_) (decide_eq_decide.mpr (by(exact⟨(by trivial),(by trivial)⟩))))
      exact⟨_,_,rfl,ora [.p,.m _,.m _,.n _,.m _,.m _,.n _] (a2 ha (a2 rfl (a2 rfl (a2 e (a2 hz1 (a2 hz2 (a2 h1 (a2 (ml h2) (a2 rfl rfl)))))))):),_,_,_,rfl⟩)
  have e2:(ay cols ac ls[la].goes).take ((bS 0 (aL ac)).map M.v).length=ay cols ac ls[la].goes:=List.take_of_length_le (by simp)
  rw[e2]at ht
  exact⟨p,q,r,ht⟩
theorem Ex(d:Nat)(T:List Tl)(W A B C D E F x8 x9 x10 x11 x12 x13 x14 x15 x16 x17 x18 x19 x20 x21 x22 x23 x24 x25 x26:M):
    ex GT (Ph d) g5 [W,A,B,C,D,E,F,.lst (ax T),x8,x9,x10,x11,x12,x13,x14,x15,x16,x17,x18,x19,x20,x21,x22,x23,x24,x25,x26]=some (.next,[W,A,B,C,D,E,F,.v (.lst (ax T)),x8,x9,x10,x11,x12,x13,x14,x15,x16,x17,x18,x19,x20,x21,x22,x23,x24,x25,x26]):=by
  exact aI [] (a2 rfl rfl:)
noncomputable def aP(b:Nat)(T:List Tl)(pl:List (Nat×Nat)):List Pl:=(List.range T.length).map fun n=>(((T[n]?).getD (ao,0,0)).2.1,((T[n]?).getD (ao,0,0)).2.2,b+((pl[n]?).getD (0,0)).1,((pl[n]?).getD (0,0)).2)
@[simp] theorem lr(b:Nat)(T:List Tl)(pl:List (Nat×Nat)):(aP b T pl).length=T.length:=by simp[aP]
theorem sv:∀(a b:List V) (k:Nat) (h1:k<a.length) (h2:k<b.length) (h:k<(iz a b).length),(iz a b)[k]=.tup [a[k],b[k]]
  |x::r,y::q,0,_,_,_=>rfl
  |x::r,y::q,k+1,h1,h2,h=>by
    simp only[pD,List.getElem_cons_succ]
    exact sv r q k (by simpa using h1) (by simpa using h2) (by simpa[pD]using h)
theorem mo:∀(a b:List V),a.length=b.length→(iz a b).length=a.length
  |[],[],_=>rfl
  |[],_::_,h=>by simp at h
  |_::_,[],h=>by simp at h
  |x::r,y::q,h=>by simp only[pD,List.length_cons];rw[mo r q (by simpa using h)]
noncomputable abbrev g6B:List S:=[
    (.app (.sub (.var 0) (.str "places")) (.tup [(.sub (.var 18) (.int 0)),(.sub (.var 18) (.int 1)),(.tup [(.bin .add (.var 8) (.sub (.var 19) (.int 0))),(.sub (.var 19) (.int 1))])]) false)]
theorem Ey(d:Nat)(u:Cu)(ps:List Pl)(b:Nat)(T:List Tl)(pl:List (Nat×Nat))(hpl:pl.length=T.length)(hs:ps.length+T.length≤200000)(A B C D E F x9 x10 x11 x12 x14 x15 x16 x17 x18 x19 x20 x21 x22 x23 x24 x25 x26:M):
    ∃p q r,ex GT (Ph d) g6 [wM u ps,A,B,C,D,E,F,.v (.lst (ax T)),.v (.int b),x9,x10,x11,x12,.v (.lst (ak pl)),x14,x15,x16,x17,x18,x19,x20,x21,x22,x23,x24,x25,x26]=
      some (.next,[wM u (ps++aP b T pl),A,B,C,D,E,F,.v (.lst (ax T)),.v (.int b),x9,x10,x11,x12,.v (.lst (ak pl)),x14,x15,x16,p,q,r,x20,x21,x22,x23,x24,x25,x26]):=by
  have hbig:=aE
  have hzl:(iz (ax T) (ak pl)).length=T.length:=by rw[mo _ _ (by simp[hpl])];simp
  obtain⟨τ,ht,p,q,r,rfl⟩:=fj (G:=GT) (Φ:=Ph d) (p:=.tup [(.tup [(.var 17),(.var 18)]),(.var 19)]) (s:=.zip (.var 7) (.var 13)) (b:=g6B) (σ:=[wM u ps,A,B,C,D,E,F,.v (.lst (ax T)),.v (.int b),x9,x10,x11,x12,.v (.lst (ak pl)),x14,x15,x16,x17,x18,x19,x20,x21,x22,x23,x24,x25,x26])
    (fun k σ=>∃p q r,σ=[wM u (ps++(aP b T pl).take k),A,B,C,D,E,F,.v (.lst (ax T)),.v (.int b),x9,x10,x11,x12,.v (.lst (ak pl)),x14,x15,x16,p,q,r,x20,x21,x22,x23,x24,x25,x26]) rfl ⟨x17,x18,x19,by rw[List.take_zero,List.append_nil]⟩ (by
      rintro k hk _ ⟨p,q,r,rfl⟩
      have hk2:k<T.length:=by rw[List.length_map,hzl]at hk;exact hk
      have hk3:k<pl.length:=by lia
      have hg1:(ax T)[k]'(by simpa using hk2)=Tl.v T[k]:=by simp[ax]
      have hg2:(ak pl)[k]'(by simpa using hk3)=.tup [.int pl[k].1,.int pl[k].2]:=by simp[ak]
      rw[List.getElem_map,sv _ _ k (by simpa using hk2) (by simpa using hk3),hg1,hg2]
      have hk5:k<(aP b T pl).length:=by simpa using hk2
      have hp:=dZ Pl.v ps (aP b T pl) k hk5 (by simp;(exact Nat.le_trans (by trivial) (Nat.le_add_left _ _)))
      have hg:(aP b T pl)[k]=(T[k].2.1,T[k].2.2,b+pl[k].1,pl[k].2):=by simp[aP,hk2,hk3]
      rw[hg]at hp
      obtain⟨h1,h2⟩:=hY hp
      exact⟨_,_,rfl,ora [.n _] (a2 h1 (a2 (ml h2) (a2 rfl rfl)):),_,_,_,rfl⟩)
  have e2:(aP b T pl).take ((iz (ax T) (ak pl)).map M.v).length=aP b T pl:=List.take_of_length_le (by rw[List.length_map,hzl];simp)
  rw[e2]at ht
  exact⟨p,q,r,ht⟩
end Mine.Internal
end
section
set_option genInjectivity true
namespace Mine.Internal
theorem pq{ls:List Ln}{cols:Nat}{k:Cur}{i top:Nat}(h1:i≤top)(h2:top≤aa ls i):((aK ls cols k i).filter (fun t=>decide (t.2.1<top))).length=beg (ad ls i) (top-i):=by
  unfold aK
  split
  · rw[List.filter_append,List.length_append,gC h1 h2]
    have:(ca (aa ls i) (beg (ad ls i) (k.r-i)) (aB ls i).length (aG ls k i+1-(aB ls i).length)).filter (fun t=>decide (t.2.1<top))=[]:=by
      rw[List.filter_eq_nil_iff]
      intro t ht
      unfold ca at ht
      rw[List.mem_map]at ht
      obtain⟨j,_,rfl⟩:=ht
      simp;omega
    rw[this];rfl
  · exact gC h1 h2
theorem pr(L:Lay)(cols:Nat):(av cols L).length=(cR L).length:=by simp[av,cR]
theorem Ez(d:Nat){ls:List Ln}(cols top:Nat)(k:Cur)(i:Nat)(u:Cu)(ps:List Pl)(b:Nat)(hT:(aK ls cols k i).length≤100000)(hpl:(au ls cols k i).places.length=(aK ls cols k i).length)(A B D x9 x10 x11 x14 x15 x16 x17 x18 x19 x20 x21 x22 x23 x24:M):
    ∃q,ex GT (Ph d) g7 [wM u ps,A,.v (.int i),.v (.int ((aa ls i:Nat):Int)),B,.v (.int top),D,.v (.lst (ax (aK ls cols k i))),.v (.int b),x9,x10,x11,.v (.lst (aL (cR (au ls cols k i)))),.v (.lst (ak (au ls cols k i).places)),x14,x15,x16,x17,x18,x19,x20,x21,x22,x23,x24,.undef,.undef]=
      some (.next,[wM (bg ls cols top i b (au ls cols k i) u) ps,A,.v (.int i),.v (.int ((aa ls i:Nat):Int)),B,.v (.int top),D,.v (.lst (ax (aK ls cols k i))),.v (.int b),x9,x10,x11,.v (.lst (aL (cR (au ls cols k i)))),.v (.lst (ak (au ls cols k i).places)),x14,x15,x16,x17,x18,x19,q,x21,x22,x23,x24,.undef,.undef]):=by
  have hb:=aE
  unfold bg
  by_cases h:i≤top∧top≤aa ls i
  · rw[if_pos h]
    have hah:=pq (cols:=cols) (k:=k) h.1 h.2
    have c1:=k8 d [wM u ps,A,.v (.int i),.v (.int ((aa ls i:Nat):Int)),B,.v (.int top),D,.v (.lst (ax (aK ls cols k i))),.v (.int b),x9,x10,x11,.v (.lst (aL (cR (au ls cols k i)))),.v (.lst (ak (au ls cols k i).places)),x14,x15,x16,x17,x18,x19,x20,x21,x22,x23,x24,.undef,.undef] (.it (.var 7)) (aK ls cols k i) (by(exact Nat.le_trans (by trivial) (Nat.le_add_left _ _))) 25 26 (.cmp .lt (.sub (.var 26) (.int 0)) (.var 5)) rfl rfl rfl (fun t=>decide (t.2.1<top)) (by
      intro t _
      exact qt rfl (aM [] (a2 (vb (dlt _ _)) rfl:)) rfl rfl rfl)
    rw[hah]at c1
    have hl1:(ax (aK ls cols k i)).length=(au ls cols k i).places.length:=by rw[ig,hpl]
    have hl2:(aL (cR (au ls cols k i))).length=(av cols (au ls cols k i)).length:=by rw[fb,pr]
    have hpos:0<(av cols (au ls cols k i)).length:=by simp[av]
    refine⟨.v (.int (beg (ad ls i) (top-i))),?_⟩
    unfold aT
    generalize beg (ad ls i) (top-i)=a at*
    have d1:=dT (Int.ofNat_le.mpr h.1)
    have d2:=dT (Int.ofNat_le.mpr h.2)
    by_cases hlt:a<(au ls cols k i).places.length
    · have hit:item (.lst (ak (au ls cols k i).places)) (.v (.int (a:Int)))=some (.v (plV (au ls cols k i).places[a])):=cq (by(solve_by_elim (maxDepth:=3) [Nat.lt_of_lt_of_le,Nat.le_trans,Nat.add_le_add,Nat.le_add_right,Nat.le_add_left,Nat.sub_le,Nat.min_le_left,Nat.min_le_right,Nat.succ_le_of_lt,Nat.lt_of_succ_le])) (by simp[ak,hlt,plV])
      rw[List.getElem?_eq_getElem hlt]
      exact aI [.b true,.b true,.s _ _,.b true,.m _] (a2 d1 (a2 d2 (a2 (bd c1 rfl) (a2 (dT (show(a:Int)<((ax (aK ls cols k i)).length:Int)by rw[hl1];(exact Int.ofNat_lt.mpr (by trivial)))) (a2 hit (a2 rfl rfl))))):)
    · rw[List.getElem?_eq_none (by lia)]
      have e:M.v (.int ((b:Int)+(((aL (cR (au ls cols k i))).length:Int)-1)))=.v (.int ((b+((av cols (au ls cols k i)).length-1):Nat):Int)):=vi (by rw[hl2];lia)
      exact aI [.b true,.b true,.s _ _,.b false,.n _] (a2 d1 (a2 d2 (a2 (bd c1 rfl) (a2 (dF (show¬(a:Int)<((ax (aK ls cols k i)).length:Int)by rw[hl1];lia)) (a2 e (a2 rfl rfl))))):)
  · rw[if_neg h]
    by_cases h1:i≤top
    · have h2:¬top≤aa ls i:=fun h2=>h ⟨h1,h2⟩
      exact⟨x20,aI [.b true,.b false] (a2 (dT (Int.ofNat_le.mpr h1)) (a2 (dF (fun q=>h2 (Int.ofNat_le.mp q))) (a2 rfl rfl)):)⟩
    · exact⟨x20,aI [.b false,.b false] (a2 (dF (fun q=>h1 (Int.ofNat_le.mp q))) (a2 rfl (a2 rfl rfl)):)⟩
end Mine.Internal
end
section
set_option genInjectivity true
namespace Mine.Internal
theorem lu(cols:Nat)(L:Lay):(av cols L).getLast?=some L.cur:=by simp[av]
theorem EA(d:Nat){ls:List Ln}(g:Good ls)(cols:Nat)(hc:0<cols)(k:Cur)(i:Nat)(u:Cu)(hu:u.cols=cols)(hw:aX ls k i=true→u.wait=false)(ps:List Pl)(b:Nat)(A B C D F x14 x15 x16 x17 x18 x19 x20 x21 x22 x23 x24 x25 x26:M):
    ∃p q r s,ex GT (Ph d) g8 [wM u ps,A,B,C,.v (.int cols),D,.v k.v,F,.v (.int b),.v (.bool (aX ls k i)),.v (.int (aG ls k i:Nat)),.v (.str (pp ls cols k i)),.v (.lst (aL (cR (au ls cols k i)))),.v (.lst (ak (au ls cols k i).places)),x14,x15,x16,x17,x18,x19,x20,x21,x22,x23,x24,x25,x26]=
      some (.next,[wM (cj ls cols k i b (au ls cols k i) u) ps,A,B,C,.v (.int cols),D,.v k.v,F,.v (.int b),.v (.bool (aX ls k i)),.v (.int (aG ls k i:Nat)),.v (.str (pp ls cols k i)),.v (.lst (aL (cR (au ls cols k i)))),.v (.lst (ak (au ls cols k i).places)),x14,x15,x16,x17,x18,x19,x20,p,q,r,s,x25,x26]):=by
  have o:=fu g cols hc k i
  unfold cj pp
  cases hh:aX ls k i with
  |false=>exact⟨x21,x22,x23,x24,aI [.b false,.b false] (a2 rfl (a2 rfl (a2 rfl rfl)):)⟩
  |true=>
    have hwt:=hw hh
    unfold nC
    cases hbh:aC ls cols k i with
    |true=>
      have e1:cellsG ls cols k i=aU ls i:=by unfold cellsG;rw[hbh,hh];rfl
      have e2:au ls cols k i=b_ ls cols i:=by unfold au b_;rw[e1]
      have hbe:=hbh
      unfold aC at hbe
      simp only[Bool.and_eq_true,decide_eq_true_eq]at hbe
      have h1:=hbe.1.2
      have h2:=hbe.2
      rw[←e2]at h2
      have hlen:=o.len
      rw[e1,h1]at hlen
      have hpl:aT (av cols (au ls cols k i)) (au ls cols k i).places (aG ls k i)=((av cols (au ls cols k i)).length-1,cols):=by
        unfold aT
        rw[List.getElem?_eq_none (by omega),lu]
        simp[h2]
      rw[hpl]
      have hl2:(aL (cR (au ls cols k i))).length=(av cols (au ls cols k i)).length:=by rw[fb,pr]
      have hpos:0<(av cols (au ls cols k i)).length:=by simp[av]
      have e:M.v (.tup [.int ((b:Int)+((aL (cR (au ls cols k i))).length:Int)-1),.int ((cols:Int)-1),.bool true])=.v (.tup [.int ((b+((av cols (au ls cols k i)).length-1):Nat):Int),.int ((min cols (cols-1):Nat):Int),.bool true]):=by
        rw[hl2,show(b:Int)+((av cols (au ls cols k i)).length:Int)-1=((b+((av cols (au ls cols k i)).length-1):Nat):Int)by(exact tY (by trivial)),show(cols:Int)-1=((min cols (cols-1):Nat):Int)by lia]
      exact⟨x21,x22,x23,x24,aI [.b true,.n _] (a2 rfl (a2 e (a2 rfl rfl)):)⟩
    |false=>
      have e1:cellsG ls cols k i=pad (aG ls k i+1) (aU ls i):=by unfold cellsG;rw[hbh,hh];rfl
      have hlen:=o.len
      have hoff:aG ls k i<(au ls cols k i).places.length:=by
        rw[hlen,e1];simp[pad];omega
      have hpl:aT (av cols (au ls cols k i)) (au ls cols k i).places (aG ls k i)=(au ls cols k i).places[aG ls k i]:=by
        unfold aT
        rw[List.getElem?_eq_getElem hoff];rfl
      have hpc:=o.place _ (List.getElem_mem hoff)
      have hit:item (.v (.lst (ak (au ls cols k i).places))) (.v (.int ((aG ls k i:Nat):Int)))=some (.v (plV (au ls cols k i).places[aG ls k i])):=(bf _ _).trans (cq (by(solve_by_elim (maxDepth:=3) [Nat.lt_of_lt_of_le,Nat.le_trans,Nat.add_le_add,Nat.le_add_right,Nat.le_add_left,Nat.sub_le,Nat.min_le_left,Nat.min_le_right,Nat.succ_le_of_lt,Nat.lt_of_succ_le])) (by simp[ak,hoff,plV]))
      rw[hpl]
      generalize(au ls cols k i).places[aG ls k i]=p at*
      generalize aG ls k i=off at*
      have fin:∀(U:Cu) (way:String),decide (way="behind")=false→U.lines=u.lines→U.first=u.first→(b:Int)+(p.1:Int)=(U.row:Int)→(p.2:Int)+(if((decide (way="free")||k.w)&&!decide ((p.2:Int)+1=(cols:Int)))then 1 else 0)=(U.col:Int)→(decide (way="on")&&(k.w&&decide ((p.2:Int)+1=(cols:Int))))=U.wait→
          ∃p q r s,ex GT (Ph d) g8 [wM u ps,A,B,C,.v (.int cols),D,.v k.v,F,.v (.int b),.v (.bool true),.v (.int (off:Nat)),.v (.str way),.v (.lst (aL (cR (au ls cols k i)))),.v (.lst (ak (au ls cols k i).places)),x14,x15,x16,x17,x18,x19,x20,x21,x22,x23,x24,x25,x26]=
            some (.next,[wM U ps,A,B,C,.v (.int cols),D,.v k.v,F,.v (.int b),.v (.bool true),.v (.int (off:Nat)),.v (.str way),.v (.lst (aL (cR (au ls cols k i)))),.v (.lst (ak (au ls cols k i).places)),x14,x15,x16,x17,x18,x19,x20,p,q,r,s,x25,x26]):=by
        intro U way h1 h2 h3 e1 e2 e3
        unfold wM
        rw[h2,h3,←e1,←e2,←e3]
        exact⟨_,_,_,_,aI [.b false,.b true,.m _,.p,.p,.p,.p] (a2 h1 (a2 rfl (a2 hit (a2 rfl (a2 rfl (a2 rfl (a2 rfl (a2 rfl rfl))))))):)⟩
      cases hf:bA ls k i with
      |true=>exact fin _ "free" rfl rfl rfl rfl (by
          show _=((min (min p.2 (cols-1)+1) (cols-1):Nat):Int)
          by_cases hl:(p.2:Int)+1=(cols:Int)<;>simp[hl]<;>lia) hwt.symm
      |false=>
        cases hkw:k.w with
        |true=>
          by_cases hl:p.2+1<cols
          · refine fin _ "on" rfl ?_ ?_ ?_ ?_ ?_<;>simp[Cu.behind,hu,hkw,hwt]<;>lia
          · refine fin _ "on" rfl ?_ ?_ ?_ ?_ ?_<;>simp[Cu.behind,hu,hkw,hwt]<;>lia
        |false=>exact fin _ "on" rfl rfl rfl rfl (by simp[hkw];(exact congrArg Int.ofNat (by trivial))) (by simp[hkw,hwt])
end Mine.Internal
end
section
set_option genInjectivity true
namespace Mine.Internal
theorem iV{ls:List Ln}(cols:Nat)(k:Cur)(i:Nat):(aK ls cols k i).length=(cellsG ls cols k i).length:=by rw[←mn,List.length_map]
theorem qx(d:Nat){ls:List Ln}(g:Good ls)(h2:∀l∈ls,2≤l.cells.length)(cols top:Nat)(hc:0<cols)(hcols:cols≤1000)(k:Cur)(hkc:k.c≤1000)(i:Nat)(hi:i<ls.length)(u:Cu)(hu:u.cols=cols)(hw:aX ls k i=true→u.wait=false)(ps:List Pl)(hl1:u.lines.length≤80000)(hl2:ps.length≤80000):
    Ph (d+4) "_law_together" [wM u ps,.v (.lst (aj ls)),.v (.int i),.v (.int ((aa ls i:Nat):Int)),.v (.int cols),.v (.int top),.v k.v]=
      some (.v .none,[wM (il ls cols top k i u) (ps++aP u.lines.length (aK ls cols k i) (au ls cols k i).places),.v (.lst (aj ls)),.v (.int i),.v (.int ((aa ls i:Nat):Int)),.v (.int cols),.v (.int top),.v k.v]):=by
  have o:=fu g cols hc k i
  have hcg:=dg g cols k i hi hkc
  have htx:=iV (ls:=ls) cols k i
  have hlast:=cQ ls ls.length i hi
  have hrl:∀p∈cR (au ls cols k i),p.length≤cols:=by
    intro p hp
    unfold cR at hp
    rw[List.mem_append,List.mem_singleton]at hp
    rcases hp with hp|rfl
    · exact(o.done p hp).1
    · exact o.cur
  have hrm:(cR (au ls cols k i)).length≤12001:=by
    have:=o.many
    simp[cR];(solve_by_elim (maxDepth:=4) [Nat.lt_of_lt_of_le,Nat.lt_of_le_of_lt,Nat.le_trans,Nat.le_of_lt,Nat.lt_succ_self,Nat.le_refl,Nat.lt_trans])
  obtain⟨p1,p2,p3,h4⟩:=Ew (d+3) (ls:=ls) u ps (cR (au ls cols k i)) (aa ls i) hlast cols hrl hcols (by(exact Nat.le_of_lt_succ (by trivial))) (.v (.int i)) (.v (.int top)) (.v k.v) (.lst (ax (aK ls cols k i))) (.v (.int u.lines.length)) (.v (.bool (aX ls k i))) (.v (.int (aG ls k i:Nat))) (.v (.str (pp ls cols k i))) (.v (.lst (ak (au ls cols k i).places))) .undef .undef .undef .undef .undef .undef .undef .undef .undef .undef .undef .undef .undef
  rw[nE cols o]at h4
  rw[show wM { u with lines:=u.lines++ay cols (av cols (au ls cols k i)) (bm ls (aa ls i)) } ps=wM { u with lines:=u.lines++ay cols (av cols (au ls cols k i)) (bm ls (aa ls i)),spots:=u.spots++aO cols u.lines.length (ad ls i) (au ls cols k i) } ps from rfl]at h4
  have hU:∃U:Cu,U={ u with lines:=u.lines++ay cols (av cols (au ls cols k i)) (bm ls (aa ls i)),spots:=u.spots++aO cols u.lines.length (ad ls i) (au ls cols k i) }:=⟨_,rfl⟩
  obtain⟨U,hU⟩:=hU
  have hUw:U.wait=u.wait:=by rw[hU]
  have hUc:U.cols=cols:=by rw[hU];exact hu
  have hT:il ls cols top k i u=cj ls cols k i u.lines.length (au ls cols k i) (bg ls cols top i u.lines.length (au ls cols k i) U):=by rw[hU];rfl
  rw[hT]
  rw[←hU]at h4
  obtain⟨p4,p5,p6,h6⟩:=Ey (d+3) U ps u.lines.length (aK ls cols k i) (au ls cols k i).places (by rw[o.len,htx]) (by lia) (.v (.lst (aj ls))) (.v (.int i)) (.v (.int ((aa ls i:Nat):Int))) (.v (.int cols)) (.v (.int top)) (.v k.v) (.v (.bool (aX ls k i))) (.v (.int (aG ls k i:Nat))) (.v (.str (pp ls cols k i))) (.v (.lst (aL (cR (au ls cols k i))))) p1 p2 p3 .undef .undef .undef .undef .undef .undef .undef .undef .undef .undef
  obtain⟨p7,h7⟩:=Ez (d+3) (ls:=ls) cols top k i U (ps++aP u.lines.length (aK ls cols k i) (au ls cols k i).places) u.lines.length (by(exact Nat.le_succ_of_le (by trivial))) (by rw[o.len,htx]) (.v (.lst (aj ls))) (.v (.int cols)) (.v k.v) (.v (.bool (aX ls k i))) (.v (.int (aG ls k i:Nat))) (.v (.str (pp ls cols k i))) p1 p2 p3 p4 p5 p6 .undef .undef .undef .undef .undef
  have hsw:(bg ls cols top i u.lines.length (au ls cols k i) U).wait=U.wait:=by unfold bg;split<;>rfl
  obtain⟨p8,p9,p10,p11,h8⟩:=EA (d+3) g cols hc k i (bg ls cols top i u.lines.length (au ls cols k i) U) (by rw[pc,hUc]) (fun h=>by rw[hsw,hUw];exact hw h) (ps++aP u.lines.length (aK ls cols k i) (au ls cols k i).places) u.lines.length (.v (.lst (aj ls))) (.v (.int i)) (.v (.int ((aa ls i:Nat):Int))) (.v (.int top)) (.v (.lst (ax (aK ls cols k i)))) p1 p2 p3 p4 p5 p6 p7 .undef .undef .undef .undef .undef .undef
  exact aD jq rfl [.s _ _,.s _ _,.s _ _,.s _ _,.s _ _,.s _ _,.s _ _,.s _ _,.s _ _] (a2 (Es d g i hi u ps _ _ _ _ _ _ _ _ _ _ _ _ _ _ _ _ _ _ _ _ _ _ _) (a2 (Et (d+3) ls k i _ _ _ _ _ _ _ _ _ _ _ _ _ _ _ _ _ _ _ _ _ _ _ _)
    (a2 (Eu d g h2 cols hc hcols k hkc i hi _ _ _ _ _ _ _ _ _ _ _ _ _ _ _ _ _ _ _ _ _ _) (a2 (Ev (d+1) g cols hc hcols k hkc i hi _ _ _ _ _ _ _ _ _ _ _ _ _ _ _ _ _ _ _ _ _ _ _ _ _) (a2 h4 (a2 (Ex (d+3) (aK ls cols k i) _ _ _ _ _ _ _ _ _ _ _ _ _ _ _ _ _ _ _ _ _ _ _ _ _ _) (a2 h6 (a2 h7 (a2 h8 (a2 rfl rfl))))))))):)
end Mine.Internal
end
section
set_option genInjectivity true
namespace Mine.Internal
theorem y1{cells:List Cell}(hw:WF cells)(cols:Nat):pad cols (aZ (cells.take cols))=bl cells cols:=by
  unfold pad bl
  by_cases h:cols<cells.length
  · rw[if_pos h,bx,List.length_take]
    congr 2
    (exact Eq.symm (Nat.sub_eq_sub_min cols cells.length))
  · rw[if_neg h,List.take_of_length_le (by(exact Nat.le_of_not_lt h)),hw.fix]
theorem wQ(l:List Cell)(n:Nat):cut (enc l) (cT none l.length) (cU (some (n:Int)) l.length)=enc (l.take n):=by
  simp only[cut,cT,cU,iP]
  rw[List.drop_zero,←hZ]
  congr 1
  rcases Nat.le_total n l.length with h|h
  · rw[Nat.min_eq_left h]
  · rw[Nat.min_eq_right h,List.take_length,List.take_of_length_le h]
theorem EB(d:Nat)(c0:List Cell)(hne:c0≠[])(W A B C D E x6 x7 x8 x10 x11:M):
    ex GT (Ph (d+1)) o2 [W,A,B,C,D,E,x6,x7,x8,.lst (enc c0),x10,x11]=some (.next,[W,A,B,C,D,E,x6,x7,x8,.lst (enc (aZ c0)),x10,x11]):=by
  obtain⟨l,c,rfl⟩:∃l c,c0=l++[c]:=⟨_,_,(List.dropLast_concat_getLast hne).symm⟩
  rw[eZ]
  have hi:item (.lst (enc (l++[c]))) (.v (.int (-1)))=some (.v c.v):=fk
  have hb:=ea d c.p
  by_cases hw:c.w=2
  · have hx:ix (-1) (enc (l++[c])).length=some l.length:=by rw[hV (by simp)];simp
    have hs:(enc (l++[c])).set l.length (bj c.p).v=enc (l++[bj c.p]):=by simp[aN,eY]
    rw[if_pos hw]
    have hst:lh (.v (.int (-1))) (.v (bj c.p).v) (.lst (enc (l++[c])))=some (.lst (enc (l++[bj c.p]))):=bd hx (md rfl (by rw[hs]))
    exact aI [.m _,.b true,.m _,.c _ _,.m _] (a2 hi (a2 (dT hw) (a2 hi (a2 hb (a2 hst (a2 rfl rfl))))):)
  · rw[if_neg hw]
    exact aI [.m _,.b false] (a2 hi (a2 (dF hw) (a2 rfl rfl)):)
noncomputable def aF(cols i b n:Nat):List Pl:=(List.range n).map fun j=>(i,j,b,min j (cols-1))
@[simp] theorem k9(cols i b n:Nat):(aF cols i b n).length=n:=by simp[aF]
noncomputable abbrev o5B:List S:=[
    (.app (.sub (.var 0) (.str "places")) (.tup [(.var 2),(.var 11),(.tup [(.var 10),(.bi "min" [(.var 11),(.bin .sub (.var 3) (.int 1))])])]) false)]
theorem EC(d:Nat)(u:Cu)(ps:List Pl)(i cols b:Nat)(hc:0<cols)(cells:List Cell)(hcl:cells.length≤1000)(hs:ps.length≤100000)(A D E x7 x8 x9 x11:M):
    ∃q,ex GT (Ph d) o5 [wM u ps,A,.v (.int i),.v (.int cols),D,E,.v (.lst (enc cells)),x7,x8,x9,.v (.int b),x11]=some (.next,[wM u (ps++aF cols i b cells.length),A,.v (.int i),.v (.int cols),D,E,.v (.lst (enc cells)),x7,x8,x9,.v (.int b),q]):=by
  have hbig:=aE
  have he:evS GT (Ph d) true (.rng Option.none (.bi "len" [(.var 6)])) [wM u ps,A,.v (.int i),.v (.int cols),D,E,.v (.lst (enc cells)),x7,x8,x9,.v (.int b),x11]=some (((List.range cells.length).map fun(k:Nat)=>V.int (k:Int)).map .v,[wM u ps,A,.v (.int i),.v (.int cols),D,E,.v (.lst (enc cells)),x7,x8,x9,.v (.int b),x11]):=by
    rw[←ab cells,←jD]
    exact kR (aM [] (a2 rfl rfl:)) (by rw[ab];exact Nat.le_trans hcl (by decide))
  obtain⟨τ,ht,q,rfl⟩:=fj (p:=.var 11) (b:=o5B) (fun k σ=>∃q,σ=[wM u (ps++(aF cols i b cells.length).take k),A,.v (.int i),.v (.int cols),D,E,.v (.lst (enc cells)),x7,x8,x9,.v (.int b),q]) he ⟨x11,by rw[List.take_zero,List.append_nil]⟩ (by
      rintro k hk _ ⟨q,rfl⟩
      have hk2:k<cells.length:=by simpa using hk
      rw[List.getElem_map,List.getElem_map,List.getElem_range]
      have hk5:k<(aF cols i b cells.length).length:=by simpa using hk2
      have hp:=dZ Pl.v ps (aF cols i b cells.length) k hk5 (by simp;(exact Nat.le_succ_of_le (by trivial)))
      have hg:(aF cols i b cells.length)[k]=(i,k,b,min k (cols-1)):=by simp[aF]
      rw[hg]at hp
      have hp:bG (dD (ps++(aF cols i b cells.length).take k)++[.tup [.int i,.int k,.tup [.int b,.int (min (k:Int) ((cols:Int)-1))]]])=some (dD (ps++(aF cols i b cells.length).take (k+1))):=by
        rw[show min (k:Int) ((cols:Int)-1)=((min k (cols-1):Nat):Int)by(exact nJ (by trivial))];exact hp
      obtain⟨h1,h2⟩:=hY hp
      exact⟨_,_,rfl,ora [.n _] (a2 h1 (a2 (ml h2) (a2 rfl rfl)):),_,rfl⟩)
  have e2:(aF cols i b cells.length).take (((List.range cells.length).map fun(k:Nat)=>V.int (k:Int)).map M.v).length=aF cols i b cells.length:=List.take_of_length_le (by simp)
  rw[e2]at ht
  exact⟨q,ht⟩
theorem y2(d:Nat){ls:List Ln}(g:Good ls)(cols top:Nat)(hc:0<cols)(hcols:cols≤100)(k:Cur)(i:Nat)(hi:i<ls.length)(u:Cu)(ps:List Pl)(hl1:u.lines.length≤80000)(hl2:ps.length≤80000):
    Ph (d+2) "_law_other_size" [wM u ps,.v (.lst (aj ls)),.v (.int i),.v (.int cols),.v (.int top),.v k.v]=
      some (.v .none,[wM (im ls cols top k i u) (ps++aF cols i u.lines.length (br ls i).length),.v (.lst (aj ls)),.v (.int i),.v (.int cols),.v (.int top),.v k.v]):=by
  have hL:ls[i]?=some ls[i]:=List.getElem?_eq_getElem hi
  have ha:=dA (ls:=ls) (i:=(i:Int)) (by(exact Int.natCast_nonneg i)) (by rw[Int.toNat_natCast];exact hL)
  have hcl:=(g.full _ (List.getElem_mem hi)).2
  have hne:=(g.full _ (List.getElem_mem hi)).1
  have hw:=g.wf _ (List.getElem_mem hi)
  have hb:=aE
  have hb4:(4:Nat)≤big:=by decide
  have hca:br ls i=ls[i].cells:=by simp[br,hL]
  have hT:im ls cols top k i u={ u with
      lines:=u.lines++[⟨bl ls[i].cells cols,ls[i].goes&&decide (cols=ls[i].cells.length),ls[i].size⟩]
      spots:=u.spots++[.other u.lines.length]
      first:=if i=top then u.lines.length else u.first
      row:=if i=k.r then u.lines.length else u.row
      col:=if i=k.r then min k.c (cols-1)else u.col
      wait:=if i=k.r then k.w&&decide (ls[i].cells.length=cols)else u.wait }:=by
    simp[im,br,bm,bz,hL]
  rw[hT,hca]
  have ha:=(bf _ _).trans ha
  generalize ls[i]=l at*
  have hc0:l.cells.take cols≠[]:=by
    obtain⟨c,r,hr⟩:=List.exists_cons_of_ne_nil hne
    obtain⟨n,rfl⟩:∃n,cols=n+1:=⟨cols-1,by(exact zf (by trivial))⟩
    simp[hr]
  have hsl:=wQ l.cells cols
  have s2:=EB d (l.cells.take cols) hc0 (wM u ps) (.v (.lst (aj ls))) (.v (.int i)) (.v (.int cols)) (.v (.int top)) (.v k.v) (.v (.lst (enc l.cells))) (.v (.bool l.goes)) (.v (.str l.size)) .undef .undef
  obtain⟨z,hz1,hz3,hz2⟩:=wP cols (aZ (l.cells.take cols)) (by rw[bx,List.length_take];(exact Nat.min_le_left cols l.cells.length)) (by(exact Nat.le_trans (by trivial) (Nat.le_add_left _ _)))
  rw[y1 hw]at hz2
  rw[←ab (aZ _)]at hz1
  have hB:∀b:Bool,(b&&decide ((cols:Int)=((enc l.cells).length:Int)))=(b&&decide (cols=l.cells.length)):=fun b=>by rw[ab,dn]
  have hp:(aj u.lines++[V.lst [.lst (enc (bl l.cells cols)),.bool (l.goes&&decide ((cols:Int)=((enc l.cells).length:Int))),.str l.size]]).length≤big∧aj u.lines++[V.lst [.lst (enc (bl l.cells cols)),.bool (l.goes&&decide ((cols:Int)=((enc l.cells).length:Int))),.str l.size]]=aj (u.lines++[⟨bl l.cells cols,l.goes&&decide (cols=l.cells.length),l.size⟩]):=by
    rw[hB]
    unfold aj
    exact⟨by simp;(exact Nat.lt_succ_of_le (by trivial)),by rw[List.map_append];rfl⟩
  have n1:M.lst (cut (enc l.cells) (cT none (enc l.cells).length) (cU (some (cols:Int)) (enc l.cells).length))=.lst (enc (l.cells.take cols)):=ml (by rw[ab];exact hsl)
  obtain⟨q,h5⟩:=EC (d+1) { u with lines:=u.lines++[⟨bl l.cells cols,l.goes&&decide (cols=l.cells.length),l.size⟩] } ps i cols u.lines.length hc l.cells (by(exact Nat.le_trans (by trivial) (Nat.le_add_left _ _))) (by(exact Nat.le_trans (by trivial) (Nat.le_add_left _ _))) (.v (.lst (aj ls))) (.v (.int top)) (.v k.v) (.v (.bool l.goes)) (.v (.str l.size)) (.lst (enc (aZ (l.cells.take cols)))) .undef
  have e1:M.v (.tup [.int u.lines.length,.int (min (k.c:Int) ((cols:Int)-1)),.bool (k.w&&decide ((cols:Int)=((enc l.cells).length:Int)))])=.v (.tup [.int u.lines.length,.int ((min k.c (cols-1):Nat):Int),.bool (k.w&&decide (l.cells.length=cols))]):=by
    rw[hB,show min (k.c:Int) ((cols:Int)-1)=((min k.c (cols-1):Nat):Int)by(exact nJ (by trivial)),decide_eq_decide.mpr (eq_comm (a:=cols))]
  have e0:=vi (congrArg Int.ofNat (b7 u.lines))
  by_cases h2:i=top<;>by_cases h3:i=k.r
  · simp only[if_pos h2,if_pos h3]
    exact aD bp rfl [.m _,.k,.k,.k,.n _,.s _ _,.n _,.m _,.m _,.p,.n _,.s _ _,.b true,.b true,.p,.n _] (a2 ha (a2 n1 (a2 s2 (a2 e0 (a2 hz1 (a2 hz2 (a2 rfl (a2 hp.1 (a2 (ml hp.2) (a2 h5 (a2 (dT (congrArg Int.ofNat h2)) (a2 (dT (congrArg Int.ofNat h3)) (a2 rfl (a2 e1 (a2 rfl rfl)))))))))))))):)
  · simp only[if_pos h2,if_neg h3]
    exact aD bp rfl [.m _,.k,.k,.k,.n _,.s _ _,.n _,.m _,.m _,.p,.n _,.s _ _,.b true,.b false] (a2 ha (a2 n1 (a2 s2 (a2 e0 (a2 hz1 (a2 hz2 (a2 rfl (a2 hp.1 (a2 (ml hp.2) (a2 h5 (a2 (dT (congrArg Int.ofNat h2)) (a2 (dF fun q=>h3 (Int.ofNat_inj.mp q)) (a2 rfl rfl)))))))))))):)
  · simp only[if_neg h2,if_pos h3]
    exact aD bp rfl [.m _,.k,.k,.k,.n _,.s _ _,.n _,.m _,.m _,.p,.n _,.s _ _,.b false,.b true,.p,.n _] (a2 ha (a2 n1 (a2 s2 (a2 e0 (a2 hz1 (a2 hz2 (a2 rfl (a2 hp.1 (a2 (ml hp.2) (a2 h5 (a2 (dF fun q=>h2 (Int.ofNat_inj.mp q)) (a2 (dT (congrArg Int.ofNat h3)) (a2 rfl (a2 e1 (a2 rfl rfl)))))))))))))):)
  · simp only[if_neg h2,if_neg h3]
    exact aD bp rfl [.m _,.k,.k,.k,.n _,.s _ _,.n _,.m _,.m _,.p,.n _,.s _ _,.b false,.b false] (a2 ha (a2 n1 (a2 s2 (a2 e0 (a2 hz1 (a2 hz2 (a2 rfl (a2 hp.1 (a2 (ml hp.2) (a2 h5 (a2 (dF fun q=>h2 (Int.ofNat_inj.mp q)) (a2 (dF fun q=>h3 (Int.ofNat_inj.mp q)) (a2 rfl rfl)))))))))))):)
end Mine.Internal
end
section
set_option genInjectivity true
namespace Mine.Internal
noncomputable def dE(ls:List Ln)(cols:Nat)(k:Cur)(i b:Nat):List Pl:=if bz ls i="single" then aP b (aK ls cols k i) (au ls cols k i).places else aF cols i b (br ls i).length
noncomputable def tK(ls:List Ln)(cols top:Nat)(k:Cur):Nat→Nat→Cu→List Pl→List Pl
  |0,_,_,ps=>ps
  |f+1,i,u,ps=>if i<ls.length then tK ls cols top k f (aa ls i+1) (b9 ls cols top k i u) (ps++dE ls cols k i u.lines.length)else ps
theorem wR(ls:List Ln)(cols top:Nat)(k:Cur)(f i:Nat)(u:Cu)(ps:List Pl):tK ls cols top k (f+1) i u ps=if i<ls.length then tK ls cols top k f (aa ls i+1) (b9 ls cols top k i u) (ps++dE ls cols k i u.lines.length)else ps:=rfl
noncomputable def lcC:E:=.cmp .lt (.var 5) (.bi "len" [(.var 0)])
noncomputable def lcW:S:=.whl (.call "_law_goes_on" [(.var 0),(.var 6)]) [
      (.asg (.var 6 false) (.bin .add (.var 6) (.int 1)))]
noncomputable def lcI:S:=.ite (.cmp .eq (.sub (.sub (.var 0) (.var 5)) (.int 2)) (.str "single")) [
      (.expr (.call "_law_together" [(.var 4),(.var 0),(.var 5),(.var 6),(.var 1),(.var 2),(.var 3)]))] [
      (.expr (.call "_law_other_size" [(.var 4),(.var 0),(.var 5),(.var 1),(.var 2),(.var 3)]))]
noncomputable def lcB:List S:=[(.asg (.var 6 false) (.var 5)),lcW,lcI,(.asg (.var 5 false) (.bin .add (.var 6) (.int 1)))]
theorem CF(d:Nat){ls:List Ln}(g:Good ls)(i:Nat)(hi:i<ls.length)(A B C W X:M):
    ex GT (Ph (d+1)) lcW [.v (.lst (aj ls)),A,B,C,W,X,.v (.int i)]=some (.next,[.v (.lst (aj ls)),A,B,C,W,X,.v (.int ((aa ls i:Nat):Int))]):=by
  have hb:=aE
  have hlen:=cQ ls ls.length i hi
  have h3:=g.len
  refine ic (fun n=>[.v (.lst (aj ls)),A,B,C,W,X,.v (.int ((i+n:Nat):Int))]) (aA ls i) (by unfold aA;omega) rfl (fun n hn=>?_) ?_
  · have hg:=e9 ls ls.length i n hn
    have hp:=dB d ls (i+n) (by unfold aA at hn;(exact Nat.le_of_lt (by trivial)))
    rw[hg]at hp
    have e:((i+(n+1):Nat):Int)=((i+n:Nat):Int)+1:=by(subst_vars;rfl)
    rw[e]
    generalize((i+n:Nat):Int)=q at*
    exact ci (σ₁:=[.v (.lst (aj ls)),A,B,C,W,X,.v (.int q)]) (aM [.c _ _] (a2 hp (a2 rfl rfl):)) (ora [] (a2 rfl rfl:))
  · have hg:=nn ls ls.length i (by(solve_by_elim (maxDepth:=3) [Nat.lt_of_lt_of_le,Nat.le_trans,Nat.add_le_add,Nat.le_add_right,Nat.le_add_left,Nat.sub_le,Nat.min_le_left,Nat.min_le_right,Nat.succ_le_of_lt,Nat.lt_of_succ_le]))
    have hp:=dB d ls (i+aA ls i) hlen
    have hg:aR ls (i+aA ls i)=false:=hg
    rw[hg]at hp
    unfold aa
    generalize((i+aA ls i:Nat):Int)=q at*
    exact aJ (aM [.c _ _] (a2 hp (a2 rfl rfl):))
theorem tL(d:Nat){ls:List Ln}(g:Good ls)(h2:∀l∈ls,2≤l.cells.length)(cols top:Nat)(hc:0<cols)(hcols:cols≤100)(k:Cur)(hkc:k.c≤1000)(i:Nat)(hi:i<ls.length)(u:Cu)(hu:u.cols=cols)(hw:i≤k.r→u.wait=false)(ps:List Pl)(hl1:u.lines.length≤80000)(hl2:ps.length≤80000)(x:M):
    ∃q,cJ GT (Ph (d+4)) lcC lcB [.v (.lst (aj ls)),.v (.int cols),.v (.int top),.v k.v,wM u ps,.v (.int i),x]=
      some (.inl [.v (.lst (aj ls)),.v (.int cols),.v (.int top),.v k.v,wM (b9 ls cols top k i u) (ps++dE ls cols k i u.lines.length),.v (.int ((aa ls i+1:Nat):Int)),q]):=by
  have hL:ls[i]?=some ls[i]:=List.getElem?_eq_getElem hi
  have ha:=dA (ls:=ls) (i:=(i:Int)) (by(exact Int.natCast_nonneg i)) (by rw[Int.toNat_natCast];exact hL)
  have hlt:(i:Int)<((aj ls).length:Int):=by(rw[b7];exact Int.ofNat_lt.mpr hi)
  have hsz:bz ls i=ls[i].size:=by simp[bz,hL]
  have sI:∃W',W'=wM (b9 ls cols top k i u) (ps++dE ls cols k i u.lines.length)∧ex GT (Ph (d+4)) lcI [.v (.lst (aj ls)),.v (.int cols),.v (.int top),.v k.v,wM u ps,.v (.int i),.v (.int ((aa ls i:Nat):Int))]=some (.next,[.v (.lst (aj ls)),.v (.int cols),.v (.int top),.v k.v,W',.v (.int i),.v (.int ((aa ls i:Nat):Int))]):=by
    refine⟨_,rfl,?_⟩
    unfold b9 dE
    by_cases hs:bz ls i="single"
    · rw[if_pos hs,if_pos hs]
      have h:=qx d g h2 cols top hc (by(exact Nat.le_trans (by trivial) (Nat.le_add_left _ _))) k hkc i hi u hu (fun hh=>hw (of_decide_eq_true (show decide (i≤k.r∧k.r≤aa ls i)=true from hh)).1) ps hl1 hl2
      rw[hsz]at hs
      generalize((aa ls i:Nat):Int)=la at*
      generalize wM (il ls cols top k i u) (ps++aP u.lines.length (aK ls cols k i) (au ls cols k i).places)=Z at*
      have hz:item (.v ls[i].lst) (.v (.int 2))=some (.v (.str ls[i].size)):=rfl
      have hq:=dT hs
      exact aI [.m _,.m _,.b true,.c _ _] (a2 ha (a2 hz (a2 hq (a2 h (a2 rfl rfl)))):)
    · rw[if_neg hs,if_neg hs]
      have h:=y2 (d+2) g cols top hc hcols k i hi u ps hl1 hl2
      rw[hsz]at hs
      generalize wM (im ls cols top k i u) (ps++aF cols i u.lines.length (br ls i).length)=Z at*
      have hz:item (.v ls[i].lst) (.v (.int 2))=some (.v (.str ls[i].size)):=rfl
      have hq:=dF hs
      exact aI [.m _,.m _,.b false,.c _ _] (a2 ha (a2 hz (a2 hq (a2 h (a2 rfl rfl)))):)
  obtain⟨W',hW',sI⟩:=sI
  rw[←hW']
  have sW:=CF (d+3) g i hi (.v (.int cols)) (.v (.int top)) (.v k.v) (wM u ps) (.v (.int i))
  refine⟨.v (.int ((aa ls i:Nat):Int)),ci (σ₁:=[.v (.lst (aj ls)),.v (.int cols),.v (.int top),.v k.v,wM u ps,.v (.int i),x]) (aM [] (a2 (vb (dT hlt)) rfl:)) ?_⟩
  unfold lcB
  have s1:ex GT (Ph (d+4)) (.asg (.var 6 false) (.var 5)) [.v (.lst (aj ls)),.v (.int cols),.v (.int top),.v k.v,wM u ps,.v (.int i),x]=some (.next,[.v (.lst (aj ls)),.v (.int cols),.v (.int top),.v k.v,wM u ps,.v (.int i),.v (.int i)]):=aI [] (a2 rfl rfl:)
  rw[aS s1,aS sW,aS sI]
  have e:((aa ls i+1:Nat):Int)=((aa ls i:Nat):Int)+1:=by(simp)
  rw[e]
  exact ora [] (a2 rfl rfl:)
theorem qy{ls:List Ln}(g:Good ls)(cols:Nat)(k:Cur)(hkc:k.c≤1000)(i:Nat)(hi:i<ls.length)(b:Nat):(dE ls cols k i b).length≤12000:=by
  unfold dE
  split
  · rw[lr,iV];exact dg g cols k i hi hkc
  · have hL:ls[i]?=some ls[i]:=List.getElem?_eq_getElem hi
    have hca:br ls i=ls[i].cells:=by simp[br,hL]
    have hcl:=(g.full _ (List.getElem_mem hi)).2
    rw[k9,hca];(exact Nat.le_trans (by trivial) (Nat.le_add_left _ _))
theorem tM{ls:List Ln}{cols top:Nat}{k:Cur}{i:Nat}{u:Cu}(hw:i≤k.r→u.wait=false)(h:aa ls i+1≤k.r):(b9 ls cols top k i u).wait=false:=by
  have hge:i≤aa ls i:=by unfold aa;(exact Nat.le_add_right i (aA ls i))
  have hh:aX ls k i=false:=decide_eq_false (by lia)
  unfold b9
  split
  · unfold il cj
    rw[hh]
    simp only[Bool.false_eq_true,if_false]
    unfold bg
    split<;>exact hw (by lia)
  · unfold im
    simp only
    rw[if_neg (by lia)]
    exact hw (by lia)
theorem tN(d:Nat){ls:List Ln}(g:Good ls)(h2:∀l∈ls,2≤l.cells.length)(h6:ls.length≤6)(cols top:Nat)(hc:0<cols)(hcols:cols≤100)(k:Cur)(hkc:k.c≤1000):
    ∀(f i:Nat) (u:Cu) (ps:List Pl) (x:M),ls.length≤i+f→u.cols=cols→(i≤k.r→u.wait=false)→u.lines.length≤13000*i→ps.length≤13000*i→
      ∃n a q,n≤f∧Runs (cJ GT (Ph (d+4)) lcC lcB) n [.v (.lst (aj ls)),.v (.int cols),.v (.int top),.v k.v,wM u ps,.v (.int i),x] (.next,[.v (.lst (aj ls)),.v (.int cols),.v (.int top),.v k.v,wM (kW ls cols top k f i u) (tK ls cols top k f i u ps),.v (.int (a:Nat)),q]):=by
  intro n_
  induction n_ with
  |zero=>exact fun i u ps x hf hu hw hl1 hl2=>⟨0,i,x,Nat.le_refl _,.done (aJ (by
      have hlt:¬(i:Int)<((aj ls).length:Int):=by rw[b7];lia
      exact aM [] (a2 (vb (dF hlt)) rfl:)))⟩
  |succ f ih=>
    intro i u ps x hf hu hw hl1 hl2
    rw[kX,wR]
    by_cases hi:i<ls.length
    · rw[if_pos hi,if_pos hi]
      obtain⟨q,ht⟩:=tL d g h2 cols top hc hcols k hkc i hi u hu hw ps (by lia) (by(exact Nat.le_of_lt_succ (by first|assumption|omega))) x
      have hlen:=dC g cols hc k hkc i hi
      have hpl:=qy g cols k hkc i hi u.lines.length
      have hge:i≤aa ls i:=by unfold aa;(exact Nat.le_add_right i (aA ls i))
      obtain⟨n,a,q2,hn,hr⟩:=ih (aa ls i+1) (b9 ls cols top k i u) (ps++dE ls cols k i u.lines.length) q (by lia) (by rw[iU];exact hu) (fun h=>tM hw h) (by rw[eb,List.length_append];(exact Nat.add_le_add (by trivial) (by trivial))) (by rw[List.length_append];(exact Nat.add_le_add (by trivial) (by trivial)))
      exact⟨n+1,a,q2,by(exact Nat.add_le_add_right hn 1),.step ht hr⟩
    · rw[if_neg hi,if_neg hi]
      refine⟨0,i,x,Nat.zero_le _,.done (aJ ?_)⟩
      have hlt:¬(i:Int)<((aj ls).length:Int):=by rw[b7];simp[*]
      exact aM [] (a2 (vb (dF hlt)) rfl:)
noncomputable def iw(ls:List Ln)(cols top:Nat)(k:Cur):List Pl:=tK ls cols top k ls.length 0 (cu0 cols) []
theorem tO(d:Nat){ls:List Ln}(g:Good ls)(h2:∀l∈ls,2≤l.cells.length)(h6:ls.length≤6)(cols top:Nat)(hc:0<cols)(hcols:cols≤100)(k:Cur)(hkc:k.c≤1000):
    Ph (d+5) "_law_cut" [.v (.lst (aj ls)),.v (.int cols),.v (.int top),.v k.v]=some (wM (jr ls cols top k) (iw ls cols top k),[.v (.lst (aj ls)),.v (.int cols),.v (.int top),.v k.v]):=by
  have hb:=aE
  obtain⟨n,a,q,hn,hr⟩:=tN d g h2 h6 cols top hc hcols k hkc ls.length 0 (cu0 cols) [] .undef (by(exact Nat.le_add_left ls.length 0)) rfl (fun _=>rfl) (by simp[cu0]) (by simp)
  have hw:=b6 hr (by(exact Nat.le_of_lt_succ (by first|assumption|omega)))
  change ex GT (Ph (d+4)) (.whl lcC lcB) [_,_,_,_,.dct [("lines",.lst []),("places",.lst []),("first",.v (.int 0)),("spot",.v (.tup [.int 0,.int 0,.bool false]))],.v (.int 0),.undef]=some (.next,[_,_,_,_,wM (jr ls cols top k) (iw ls cols top k),_,_])at hw
  exact aD qh rfl [.k,.s _ _] (a2 hw (a2 rfl rfl):)
end Mine.Internal
end
section
set_option genInjectivity true
namespace Mine.Internal
theorem wS(ls:List Ln)(i:Nat):∀k n,n<(bQ ls i k).length→∃m j c,(bQ ls i k)[n]?=some (c,i+m,j)∧m<k∧j<(ai ls (i+m)).length∧n=(aW ls i m).flatten.length+j:=by
  intro n_
  induction n_ with
  |zero=>exact fun n h=>by simp[bQ]at h
  |succ k ih=>
    intro n h
    rw[dh]at h ⊢
    by_cases hn:n<(bQ ls i k).length
    · obtain⟨m,j,c,h1,h2,h3,h4⟩:=ih n hn
      exact⟨m,j,c,by rw[List.getElem?_append_left hn];exact h1,by(exact Nat.lt_add_right 1 h2),h3,h4⟩
    · rw[List.length_append,wI]at h
      have hl:(bQ ls i k).length=(aW ls i k).flatten.length:=by rw[←fA,List.length_map]
      refine⟨k,n-(bQ ls i k).length,((ai ls (i+k))[n-(bQ ls i k).length]?).getD ao,?_,by(exact Nat.lt_add_one k),by(exact mw (by trivial) (by trivial)),by lia⟩
      rw[List.getElem?_append_right (by(exact Nat.le_of_not_lt hn))]
      unfold ew
      rw[List.getElem?_map,List.getElem?_range (by lia)]
      rfl
theorem qz{ls:List Ln}{i:Nat}:du (ad ls i) (aA ls i)=none:=by
  unfold du
  rw[if_neg (by simp[ad])]
theorem wT{ls:List Ln}{i m j:Nat}(hm:m<aA ls i+1)(hj:j<(ai ls (i+m)).length):dY (du (ad ls i) m) j=j:=by
  unfold du
  split
  · rename_i h
    have hlt:m<(ad ls i).length:=by simp[ad];(assumption)
    rw[List.getElem?_eq_getElem hlt,fB hlt]
    simp only[Option.map_some,dY]
    (exact C1 (by trivial))
  · rfl
theorem wU{ls:List Ln}(g:Good ls)(h2:∀l∈ls,2≤l.cells.length)(cols:Nat)(k:Cur)(i n:Nat)(hn:n<(aK ls cols k i).length):∃m j c,(aK ls cols k i)[n]?=some (c,i+m,j)∧m<aA ls i+1∧n=beg (ad ls i) m+dY (du (ad ls i) m) j:=by
  by_cases hg:n<(aB ls i).length
  · obtain⟨m,j,c,h1,h3,h4,h5⟩:=wS ls i (aA ls i+1) n hg
    refine⟨m,j,c,?_,h3,?_⟩
    · unfold aK
      split
      · rw[List.getElem?_append_left hg];exact h1
      · exact h1
    · rw[wT h3 h4,mi ls i m (by(exact Nat.le_of_succ_le h3))];exact h5
  · unfold aK at hn ⊢
    split at hn
    · rename_i hh
      rw[if_pos hh]
      simp only[Bool.and_eq_true]at hh
      have hk:=hh.1
      rw[List.length_append]at hn
      have hpl:∀m,(ca (aa ls i) (beg (ad ls i) (k.r-i)) (aB ls i).length m).length=m:=fun m=>by simp[ca]
      rw[hpl]at hn
      have hkk:=of_decide_eq_true (show decide (i≤k.r∧k.r≤aa ls i)=true from hk)
      have hlt:=nz hk
      have hbs:=ij hlt
      have hpk:(ad ls i)[k.r-i]=ai ls k.r:=by rw[fB hlt,show i+(k.r-i)=k.r by(simp[*])]
      rw[hpk]at hbs
      have hble:beg (ad ls i) (k.r-i+1)≤(aB ls i).length:=by rw[bR];exact de _ _
      have hlast:k.r=aa ls i:=by
        refine Nat.le_antisymm hkk.2 (Nat.le_of_not_lt fun hl=>?_)
        have hfr:=pj h2 (c:=k.c) hkk.1 hkk.2
        have hgo:aR ls k.r=true:=by
          have:=e9 ls ls.length i (k.r-i) (by unfold aa aA at hl;(exact Nat.succ_le_of_lt (by trivial)))
          rwa[show i+(k.r-i)=k.r by(simp[*])]at this
        have hpos:=k7 h2 hgo
        have hoff:aG ls k i+1≤(aB ls i).length:=by
          unfold aG
          rw[if_pos hk]
          unfold qq
          split
          · (exact zg (by first|assumption|omega) (by first|assumption|omega))
          · rename_i hf
            rw[hfr]at hf
            have:¬(ai ls k.r).length≤k.c:=fun q=>hf (decide_eq_true ⟨hl,q⟩)
            lia
        (exact absurd (by first|assumption|omega) (Nat.not_lt.mpr (by first|assumption|omega)))
      have hmore:k.r-i=aA ls i:=by rw[hlast];unfold aa;(exact Nat.add_sub_self_left i (aA ls i))
      rw[hmore]at hble ⊢
      have hb2:beg (ad ls i) (aA ls i)≤(aB ls i).length:=by rw[bR];exact de _ _
      refine⟨aA ls i,n-beg (ad ls i) (aA ls i),ao,?_,by(exact Nat.lt_add_one (aA ls i)),?_⟩
      · rw[List.getElem?_append_right (by(exact Nat.le_of_not_lt hg))]
        unfold ca
        rw[List.getElem?_map,List.getElem?_range (by(exact mw (by trivial) (by trivial)))]
        simp only[Option.map_some]
        unfold aa
        congr 3
        (exact Nat.le_antisymm (by trivial) (by trivial))
      · rw[qz]
        simp only[dY]
        lia
    · (solve_by_elim (maxDepth:=3) [Nat.lt_of_lt_of_le,Nat.le_trans,Nat.add_le_add,Nat.le_add_right,Nat.le_add_left,Nat.sub_le,Nat.min_le_left,Nat.min_le_right,Nat.succ_le_of_lt,Nat.lt_of_succ_le])
noncomputable def Coh(u:Cu)(cols:Nat)(p:Pl):Prop:=∃s,u.spots[p.1]?=some s∧s.place cols p.2.1=(p.2.2.1,p.2.2.2)
theorem wV{ls:List Ln}(g:Good ls)(h2:∀l∈ls,2≤l.cells.length)(cols top:Nat)(hc:0<cols)(k:Cur)(i:Nat)(hi:i<ls.length)(u:Cu)(hs:u.spots.length=i)(ps:List Pl)(h:∀p∈ps,Coh u cols p):∀p∈ps++dE ls cols k i u.lines.length,Coh (b9 ls cols top k i u) cols p:=by
  intro p hp
  unfold Coh
  rw[gB]
  rw[List.mem_append]at hp
  rcases hp with hp|hp
  · obtain⟨s,h1,h3⟩:=h p hp
    exact⟨s,by rw[List.getElem?_append_left (by
      rcases Nat.lt_or_ge p.1 u.spots.length with q|q
      · exact q
      · rw[List.getElem?_eq_none q]at h1;cases h1)];exact h1,h3⟩
  · unfold dE at hp
    unfold d0
    split at hp
    · rename_i hsz
      rw[if_pos hsz]
      unfold aP at hp
      rw[List.mem_map]at hp
      obtain⟨n,hn,rfl⟩:=hp
      rw[List.mem_range]at hn
      obtain⟨m,j,c,hx,hm,hnn⟩:=wU g h2 cols k i n hn
      have o:=fu g cols hc k i
      have hpl:n<(au ls cols k i).places.length:=by rw[o.len,←iV];exact hn
      have hpc:=o.place _ (List.getElem_mem hpl)
      rw[hx]
      simp only[Option.getD_some]
      rw[List.getElem?_eq_getElem hpl]
      simp only[Option.getD_some]
      have hml:m<(aO cols u.lines.length (ad ls i) (au ls cols k i)).length:=by simp[ad];(assumption)
      refine⟨_,by rw[List.getElem?_append_right (by(exact Nat.le.intro (congrFun (congrArg HAdd.hAdd hs) m))),show i+m-u.spots.length=m by(exact Eq.symm (Nat.eq_sub_of_add_eq' (congrFun (congrArg HAdd.hAdd hs) m))),List.getElem?_eq_getElem hml,iq],?_⟩
      unfold Spt.place
      have e:aT ((au ls cols k i).done.map (pad cols)++[(au ls cols k i).cur]) (au ls cols k i).places (beg (ad ls i) m+dY (du (ad ls i) m) j)=(au ls cols k i).places[n]:=by
        unfold aT
        rw[←hnn,List.getElem?_eq_getElem hpl];rfl
      simp only[e]
      rw[Nat.min_eq_left (by(exact Nat.le_sub_one_of_lt (by trivial)))]
    · rename_i hsz
      rw[if_neg hsz]
      unfold aF at hp
      rw[List.mem_map]at hp
      obtain⟨j,hj,rfl⟩:=hp
      refine⟨.other u.lines.length,by rw[List.getElem?_append_right (by(simp[*]))];simp[hs],rfl⟩
theorem y3{ls:List Ln}(g:Good ls)(h2:∀l∈ls,2≤l.cells.length)(cols top:Nat)(hc:0<cols)(k:Cur):∀(f i:Nat) (u:Cu) (ps:List Pl),ls.length≤i+f→i≤ls.length→u.spots.length=i→(∀p∈ps,Coh u cols p)→
    (kW ls cols top k f i u).spots.length=ls.length∧∀p∈tK ls cols top k f i u ps,Coh (kW ls cols top k f i u) cols p:=by
  intro n_
  induction n_ with
  |zero=>exact fun i u ps hf hi hs h=>⟨show u.spots.length=ls.length by lia,h⟩
  |succ f ih=>
    intro i u ps hf hi hs h
    rw[kX,wR]
    by_cases hlt:i<ls.length
    · rw[if_pos hlt,if_pos hlt]
      have hl:=cQ ls ls.length i hlt
      have hl:aa ls i<ls.length:=hl
      have hge:i≤aa ls i:=by unfold aa;(exact Nat.le_add_right i (aA ls i))
      exact ih (aa ls i+1) _ _ (by lia) (by(assumption)) (by rw[gB,List.length_append,f7,hs];unfold aa;(exact Eq.symm (Nat.add_assoc i (aA ls i) 1))) (wV g h2 cols top hc k i hlt u hs ps h)
    · rw[if_neg hlt,if_neg hlt]
      exact⟨by lia,h⟩
theorem y4{ls:List Ln}(g:Good ls)(h2:∀l∈ls,2≤l.cells.length)(cols top:Nat)(hc:0<cols)(k:Cur):(jr ls cols top k).spots.length=ls.length∧∀p∈iw ls cols top k,Coh (jr ls cols top k) cols p:=
  y3 g h2 cols top hc k ls.length 0 (cu0 cols) [] (by(exact Nat.le_add_left ls.length 0)) (by(exact Nat.zero_le ls.length)) rfl (fun _ h=>nomatch h)
theorem mq(ls:List Ln)(cols top:Nat)(k:Cur):∀(f i:Nat) (u:Cu),(kW ls cols top k f i u).cols=u.cols
  |0,_,_=>rfl
  |f+1,i,u=>by
    rw[kX]
    split
    · rw[mq,iU]
    · rfl
theorem tP(ls:List Ln)(cols top:Nat)(k:Cur):(jr ls cols top k).cols=cols:=mq ..
theorem qA(cs:List Cell)(n:Nat):(bl cs n).length=n:=by
  unfold bl
  split
  · simp[bx];(exact Nat.le_antisymm (by trivial) (by trivial))
  · simp;(exact qI (by first|assumption|omega))
theorem k_{ls:List Ln}(g:Good ls)(cols:Nat)(hc:0<cols)(k:Cur)(i:Nat):∀l∈cS ls cols k i,l.cells.length=cols:=by
  intro l hl
  unfold cS at hl
  split at hl
  · have o:=fu g cols hc k i
    unfold ay at hl
    rw[List.mem_map]at hl
    obtain⟨n,hn,rfl⟩:=hl
    rw[List.mem_range]at hn
    rw[List.getElem?_eq_getElem hn]
    exact nB (mh o _ (List.getElem_mem hn))
  · rw[List.mem_singleton]at hl
    subst hl
    exact qA _ _
theorem qB{ls:List Ln}(g:Good ls)(cols top:Nat)(hc:0<cols)(k:Cur)(hkc:k.c≤1000):∀(f i:Nat) (u:Cu),i≤ls.length→u.lines.length≤13000*i→(∀l∈u.lines,l.cells.length=cols)→(kW ls cols top k f i u).lines.length≤13000*ls.length∧∀l∈(kW ls cols top k f i u).lines,l.cells.length=cols:=by
  intro n_
  induction n_ with
  |zero=>exact fun i u hil hl h=>⟨show u.lines.length≤13000*ls.length by lia,h⟩
  |succ f ih=>
    intro i u hil hl h
    rw[kX]
    split
    · rename_i hi
      have hlen:=dC g cols hc k hkc i hi
      have hge:i≤aa ls i:=by unfold aa;(exact Nat.le_add_right i (aA ls i))
      have hll:aa ls i<ls.length:=cQ ls ls.length i hi
      refine ih (aa ls i+1) _ (by(assumption)) (by rw[eb,List.length_append];(exact Nat.le_of_lt_succ (by trivial))) (fun l hl=>?_)
      rw[eb,List.mem_append]at hl
      exact hl.elim (h l) (k_ g cols hc k i l)
    · exact⟨by lia,h⟩
theorem qC{ls:List Ln}(g:Good ls)(h6:ls.length≤6)(cols top:Nat)(hc:0<cols)(k:Cur)(hkc:k.c≤1000):(jr ls cols top k).lines.length≤78000∧∀l∈(jr ls cols top k).lines,l.cells.length=cols:=by
  have:=qB g cols top hc k hkc ls.length 0 (cu0 cols) (by(exact Nat.zero_le ls.length)) (by simp[cu0]) (fun _ h=>nomatch h)
  exact⟨Nat.le_trans this.1 (by lia),this.2⟩
end Mine.Internal
end
section
set_option genInjectivity true
namespace Mine.Internal
mutual
theorem V.eq_refl:∀(x:V) (n:Nat),x.plain n=true→x.eq x=true
  |.none,_,_=>rfl
  |.bool b,_,_=>beq_self_eq_true b
  |.int _,_,_=>decide_eq_true rfl
  |.str _,_,_=>decide_eq_true rfl
  |.tup _,0,h=>absurd h Bool.false_ne_true
  |.lst _,0,h=>absurd h Bool.false_ne_true
  |.tup l,n+1,h=>V.eqs_refl l n h
  |.lst l,n+1,h=>V.eqs_refl l n h
  |.obj c fs,n,h=>by cases n<;>exact absurd h Bool.false_ne_true
theorem V.eqs_refl:∀(l:List V) (n:Nat),V.plains l n=true→V.eqs l l=true
  |[],_,_=>rfl
  |x::r,n,h=>(Bool.and_eq_true_iff.mpr ⟨V.eq_refl x n (Bool.and_eq_true_iff.mp h).1,V.eqs_refl r n (Bool.and_eq_true_iff.mp h).2⟩:(x.eq x&&V.eqs r r)=true)
end
theorem cI{a b:M}{x:V}(ha:a.toV=some x)(hb:b.toV=some x)(hx:x.plain 16=true):bn .ne a b=some false:=by
  show eqM _ a b=_
  unfold eqM
  rw[ha,hb]
  exact(if_pos (by rw[hx];rfl)).trans (by rw[V.eq_refl x 16 hx];rfl)
theorem Ln.plain_lst(l:Ln)(n:Nat)(h:5≤n):l.lst.plain n=true:=by
  obtain⟨k,rfl⟩:∃k,n=k+5:=⟨n-5,by(simp[*])⟩
  simp[Ln.lst,zh,zi,zj,zk,zl,pB,pC,fo]
theorem lc:∀(ls:List Ln) (n:Nat),5≤n→V.plains (aj ls) n=true
  |[],_,_=>rfl
  |l::r,n,h=>by
    have:=lc r n h
    unfold aj at this ⊢
    simp only[List.map_cons,pB,pC,l.plain_lst n h,this,Bool.and_self]
theorem nG(ls:List Ln):(V.lst (aj ls)).plain 16=true:=lc ls 15 (by decide)
noncomputable def bJ(l:Ln):M:=.lstM [.lst (enc l.cells),.v (.bool l.goes),.v (.str l.size)]
theorem mr:∀ls:List Ln,M.toVs (ls.map bJ)=some (aj ls)
  |[]=>rfl
  |l::r=>bd (rfl:M.toV (bJ l)=some l.lst) (md (mr r) rfl)
theorem jh:∀ls:List Ln,M.indeps (ls.map bJ)=true
  |[]=>rfl
  |l::r=>by simp[bJ,jh r]
noncomputable def f8(ls:List Ln):M:=bF (ls.map bJ)
theorem di(ls:List Ln):f8 ls=.lst []∧ls=[]∨f8 ls=.lstM (ls.map bJ):=by
  cases ls with
  |nil=>exact .inl ⟨rfl,rfl⟩
  |cons l r=>exact .inr rfl
@[simp] theorem jE(ls:List Ln):(f8 ls).toV=some (.lst (aj ls)):=by
  rcases di ls with⟨h,rfl⟩|h
  · rfl
  · rw[h];exact md (mr ls) rfl
@[simp] theorem d3(ls:List Ln):(f8 ls).indep=true:=by
  rcases di ls with⟨h,rfl⟩|h
  · rfl
  · rw[h,o8,jh]
theorem qD(d:Nat)(ls:List Ln)(h:ls.length≤100000):Ph (d+1) "_law_seen" [.v (.lst (aq ls))]=some (f8 ls,[.v (.lst (aq ls))]):=by
  have hb:=aE
  have hr:=fq (f:=bu GT (Ph d) (.lst [(.bi "list" [(.attr (.var 1) "cells")]),(.attr (.var 1) "is_wrapped"),(.attr (.var 1) "size")]) (.var 1) none) (σ:=[.v (.lst (aq ls)),.undef]) (e:=Ln.obj) (fun _=>true) bJ ls (by
    intro l _
    exact kZ (y:=bJ l) rfl (aM [] (a2 rfl rfl:)) rfl rfl)
  rw[List.filter_eq_self.mpr (fun _ _=>rfl)]at hr
  have hr:ac (bu GT (Ph d) (.lst [(.bi "list" [(.attr (.var 1) "cells")]),(.attr (.var 1) "is_wrapped"),(.attr (.var 1) "size")]) (.var 1) none) (aq ls) [.v (.lst (aq ls)),.undef]=some (ls.map bJ,[.v (.lst (aq ls)),.undef]):=hr
  have hund:gD (.var 1) [.v (.lst (aq ls)),.undef]=true:=iu _ _ rfl
  have hlen:(ls.map bJ).length≤big:=by simp;(exact Nat.le_trans (by trivial) (Nat.le_add_left _ _))
  have hcm:=fy (s:=.it (.var 0)) hund rfl hr hlen
  have hcm:_=some (f8 ls,_):=hcm
  exact aD oJ rfl [.m _] (a2 hcm (a2 rfl rfl):)
noncomputable def Ln.free(l:Ln):Bool:=!l.goes&&decide (l.size="single")&&(strip l.cells).isEmpty
noncomputable def jj(ls:List Ln)(ac first row:Nat):Nat→Nat
  |0=>0
  |n+1=>if ac+first<n+1∧row<n∧(ls[n]?).any Ln.free then jj ls ac first row n else n+1
theorem nH(ls:List Ln)(ac first row n:Nat):jj ls ac first row (n+1)=if ac+first<n+1∧row<n∧(ls[n]?).any Ln.free then jj ls ac first row n else n+1:=rfl
theorem ld(ls:List Ln)(ac first row:Nat):∀n,jj ls ac first row n≤n
  |0=>Nat.le_refl _
  |n+1=>by
    rw[nH]
    split
    · exact Nat.le_succ_of_le (ld ls ac first row n)
    · exact Nat.le_refl _
noncomputable def Cu.kept(u:Cu)(ac:Nat):Cu:={ u with lines:=u.lines.take (jj u.lines ac u.first u.row u.lines.length) }
noncomputable def guC:E:=(.and [(.cmp .gt (.bin .sub (.bi "len" [(.attr (.var 0) "lines")]) (.attr (.var 0) "first")) (.var 1)),(.cmp .gt (.bin .sub (.bi "len" [(.attr (.var 0) "lines")]) (.int 1)) (.attr (.var 0) "row"))])
noncomputable def guB:List S:=[
    (.asg (.var 2 false) (.sub (.attr (.var 0) "lines") (.neg (.int 1)))),
    (.ite (.or [(.attr (.var 2) "is_wrapped"),(.cmp .ne (.attr (.var 2) "size") (.glob "SINGLE")),(.cmp .ne (.call "reflow_used" [(.attr (.var 2) "cells")]) (.lst []))]) [
      (.ret Option.none)] []),
    (.pop (.attr (.var 0) "lines"))]
theorem iW(ls:List Ln)(n:Nat)(h:n<ls.length):aq (ls.take (n+1))=aq (ls.take n)++[ls[n].obj]:=by
  unfold aq
  rw[List.take_add_one,List.getElem?_eq_getElem h,List.map_append]
  rfl
theorem iX(ls:List Ln)(n:Nat)(h:n<ls.length):aj (ls.take (n+1))=aj (ls.take n)++[ls[n].lst]:=by
  unfold aj
  rw[List.take_add_one,List.getElem?_eq_getElem h,List.map_append]
  rfl
theorem nI(l:List Cell):bn .ne (.lst (enc l)) (.lst [])=some (!l.isEmpty):=kJ l
theorem tQ(d:Nat)(u:Cu)(ls:List Ln)(hls:∀l∈ls,l.cells.length≤10000)(ac:Nat):∀n,n≤ls.length→∀x:M,
    ∃m fl q,m≤n∧(fl=.next∨fl=.ret (.v .none))∧Runs (cJ GT (Ph (d+2)) guC guB) m [Cu.own { u with lines:=ls.take n },.v (.int ac),x] (fl,[Cu.own { u with lines:=ls.take (jj ls ac u.first u.row n) },.v (.int ac),q]):=by
  intro n_
  induction n_ with
  |zero=>exact fun _ x=>⟨0,.next,x,Nat.le_refl _,.inl rfl,.done (aJ (by
      have h2:decide ((ac:Int)<((aq (ls.take 0)).length:Int)-(u.first:Int))=false:=decide_eq_false (show¬(ac:Int)<(0:Int)-(u.first:Int)by lia)
      exact aM [.b false] (a2 h2 (a2 rfl rfl):)))⟩
  |succ n ih=>
    intro hn x
    have hx:ls[n]?=some ls[n]:=List.getElem?_eq_getElem hn
    have hlen:(ls.take (n+1)).length=n+1:=by simp;(exact Nat.min_eq_left hn)
    have hol:(aq (ls.take (n+1))).length=n+1:=by rw[cF,hlen]
    have hc:ev GT (Ph (d+2)) guC [Cu.own { u with lines:=ls.take (n+1) },.v (.int ac),x]=some (.v (.bool (decide (ac+u.first<n+1∧u.row<n))),[Cu.own { u with lines:=ls.take (n+1) },.v (.int ac),x]):=by
      have e1:decide ((ac:Int)<((aq (ls.take (n+1))).length:Int)-(u.first:Int))=decide (ac+u.first<n+1):=by rw[hol];exact decide_eq_decide.mpr (by lia)
      have e2:decide ((u.row:Int)<((aq (ls.take (n+1))).length:Int)-1)=decide (u.row<n):=by rw[hol];exact decide_eq_decide.mpr (by lia)
      rw[Bool.decide_and]
      by_cases h1:ac+u.first<n+1
      · rw[decide_eq_true h1]at e1 ⊢
        by_cases h2:u.row<n
        · rw[decide_eq_true h2]at e2 ⊢
          exact aM [.b true] (a2 e1 (a2 (vb e2) rfl):)
        · rw[decide_eq_false h2]at e2 ⊢
          exact aM [.b true] (a2 e1 (a2 (vb e2) rfl):)
      · rw[decide_eq_false h1]at e1 ⊢
        exact aM [.b false] (a2 e1 (a2 rfl rfl):)
    rw[nH]
    rw[hx]
    simp only[Option.any_some]
    by_cases hcond:ac+u.first<n+1∧u.row<n
    · rw[decide_eq_true hcond]at hc
      have hit:item (.lst (aq (ls.take (n+1)))) (.v (.int (-1)))=some (.v ls[n].obj):=by
        rw[iW ls n hn];exact dW
      have hpop:(aq (ls.take (n+1))).dropLast=aq (ls.take n):=by
        rw[iW ls n hn]
        simp
      have hpe:(aq (ls.take (n+1))).isEmpty=false:=by
        rw[iW ls n hn]
        simp
      have hus:=fZ d ls[n].cells (hls _ (List.getElem_mem hn))
      have hne:=nI (strip ls[n].cells)
      by_cases hfree:ls[n].free=true
      · rw[if_pos ⟨hcond.1,hcond.2,hfree⟩]
        unfold Ln.free at hfree
        simp only[Bool.and_eq_true,Bool.not_eq_true',decide_eq_true_eq]at hfree
        obtain⟨⟨f1,f2⟩,f3⟩:=hfree
        obtain⟨m,fl,q,hm,hfl,hr⟩:=ih (by(exact Nat.le_of_succ_le hn)) (.v ls[n].obj)
        refine⟨m+1,fl,q,by(exact Nat.add_le_add_right hm 1),hfl,.step (ci hc ?_) hr⟩
        simp only[Cu.own]
        rw[f3]at hne
        rw[←hpop]
        generalize aq (ls.take (n+1))=Z at*
        generalize enc (strip ls[n].cells)=SC at*
        exact ora [.m _,.b false,.b false,.c _ _,.d _,.b false,.b true] (a2 hit (a2 f1 (a2 (congrArg (!·) (decide_eq_true f2)) (a2 hus (a2 hne (a2 rfl (a2 hpe (a2 rfl rfl))))))):)
      · rw[if_neg (fun h=>hfree h.2.2)]
        refine⟨0,.ret (.v .none),.v ls[n].obj,by(exact Nat.le_add_left 0 (n+1)),.inr rfl,.done (yM hc ?_)⟩
        simp only[Cu.own]
        generalize aq (ls.take (n+1))=Z at*
        unfold Ln.free at hfree
        cases hg:ls[n].goes with
        |true=>exact ora [.m _,.b true,.b true] (a2 hit (a2 hg (a2 rfl (a2 rfl rfl))):)
        |false=>
          by_cases hs:ls[n].size="single"
          · have he:(strip ls[n].cells).isEmpty=false:=by
              cases h:(strip ls[n].cells).isEmpty with
              |false=>rfl
              |true=>rw[hg,h]at hfree;exact absurd (by simp[hs]) hfree
            rw[he]at hne
            generalize enc (strip ls[n].cells)=SC at*
            exact ora [.m _,.b false,.b false,.c _ _,.d _,.b true] (a2 hit (a2 hg (a2 (congrArg (!·) (decide_eq_true hs)) (a2 hus (a2 hne (a2 rfl (a2 rfl rfl)))))):)
          · exact ora [.m _,.b false,.b true,.b true] (a2 hit (a2 hg (a2 (congrArg (!·) (decide_eq_false hs)) (a2 rfl (a2 rfl rfl)))):)
    · rw[decide_eq_false hcond]at hc
      rw[if_neg (fun h=>hcond ⟨h.1,h.2.1⟩)]
      exact⟨0,.next,x,by(solve_by_elim (maxDepth:=3) [Nat.lt_of_lt_of_le,Nat.le_trans,Nat.add_le_add,Nat.le_add_right,Nat.le_add_left,Nat.sub_le,Nat.min_le_left,Nat.min_le_right,Nat.succ_le_of_lt,Nat.lt_of_succ_le]),.inl rfl,.done (aJ hc)⟩
theorem tR(d:Nat)(u:Cu)(hls:∀l∈u.lines,l.cells.length≤10000)(hl:u.lines.length≤100000)(ac:Nat):Ph (d+3) "Cutting.give_up" [u.own,.v (.int ac)]=some (.v .none,[(u.kept ac).own,.v (.int ac)]):=by
  rw[nj gp rfl]
  have hb:=aE
  obtain⟨m,fl,q,hm,hfl,hr⟩:=tQ d u u.lines hls ac u.lines.length (Nat.le_refl _) .undef
  have hw:=b6 hr (by(exact Nat.lt_succ_of_le (by trivial)))
  rw[List.take_length]at hw
  have e:bV=[.whl guC guB]:=rfl
  rw[e]
  show fin 2 (exs GT (Ph (d+2)) [.whl guC guB] [u.own,.v (.int ac),.undef])=_
  rcases hfl with rfl|rfl
  · rw[aS hw,DR];rfl
  · rw[qj,hw];rfl
end Mine.Internal
end
section
set_option genInjectivity true
namespace Mine.Internal
theorem sw:∀(cs:List Cell) (n:Nat),V.eqs (enc cs) (List.replicate n ao.v)=(decide (cs.length=n)&&cs.all Cell.plain)
  |[],0=>rfl
  |[],n+1=>by simp[List.replicate_succ,gb,gc,gf]
  |c::r,0=>by simp[eY,gb,gc,gf]
  |c::r,n+1=>by
    have:=sw r n
    simp only[eY,List.replicate_succ,gb,gc,gf,this]
    have e:V.eq c.v ao.v=c.plain:=rfl
    rw[e]
    by_cases h:r.length=n<;>simp[h]
theorem mt(cs:List Cell):∀n,n≤cs.length→(used cs n=0↔(cs.take n).all Cell.plain=true)
  |0,_=>by simp[show used cs 0=0 from rfl]
  |n+1,h=>by
    have hx:cs[n]?=some cs[n]:=List.getElem?_eq_getElem h
    have ih:=mt cs n (by(exact Nat.le_of_succ_le h))
    rw[qo]
    rw[List.take_add_one,hx]
    simp only[Option.any_some,Option.toList_some,List.all_append,List.all_cons,List.all_nil,Bool.and_true,Bool.and_eq_true]
    by_cases hp:cs[n].plain=true
    · rw[if_pos hp];simp only[hp,and_true];exact ih
    · rw[if_neg hp];simp[hp]
theorem tS(cs:List Cell):(strip cs).isEmpty=cs.all Cell.plain:=by
  have h:=mt cs cs.length (Nat.le_refl _)
  rw[List.take_length]at h
  unfold strip
  cases ha:cs.all Cell.plain with
  |true=>
    rw[h.mpr ha];rfl
  |false=>
    rw[ha]at h
    have hu:used cs cs.length≠0:=fun e=>by simpa using h.mp e
    cases cs with
    |nil=>simp at ha
    |cons c r=>
      obtain⟨m,hm⟩:∃m,used (c::r) (c::r).length=m+1:=⟨used (c::r) (c::r).length-1,by(exact Eq.symm (Nat.succ_pred_eq_of_ne_zero hu))⟩
      rw[hm];rfl
noncomputable def fc(cols:Nat):V:=.lst [.lst (List.replicate cols ao.v),.bool false,.str "single"]
theorem qE(cols:Nat):(fc cols).plain 16=true:=by
  have h:=fo (List.replicate cols ao) 14 (by decide)
  rw[jB]at h
  simp[fc,zh,zi,zj,zk,zl,pB,pC,h]
theorem y5(l:Ln)(cols:Nat)(h:l.cells.length=cols):bn .eq (.v l.lst) (.v (fc cols))=some l.free:=by
  rw[nl (l.plain_lst 16 (by decide)) (qE cols)]
  congr 1
  unfold Ln.lst fc Ln.free
  simp only[qL,qM,qN,qO,qP,gb,gc,gf,sw,tS]
  simp[h]
  cases l.cells.all Cell.plain<;>cases l.goes<;>simp
noncomputable def wX(u:Cu)(pm:M):M:=.dct [("lines",.lst (aj u.lines)),("places",pm),("first",.v (.int u.first)),("spot",.v (.tup [.int u.row,.int u.col,.bool u.wait]))]
noncomputable def reC:E:=.and [(.cmp .gt (.bin .sub (.bi "len" [(.sub (.var 1) (.str "lines"))]) (.sub (.var 1) (.str "first"))) (.var 2)),(.cmp .gt (.bin .sub (.bi "len" [(.sub (.var 1) (.str "lines"))]) (.int 1)) (.sub (.sub (.var 1) (.str "spot")) (.int 0))),(.cmp .eq (.sub (.sub (.var 1) (.str "lines")) (.neg (.int 1))) (.var 4))]
noncomputable def reB:List S:=[
    (.pop (.sub (.var 1) (.str "lines")))]
theorem tT(d:Nat)(u:Cu)(ls:List Ln)(cols:Nat)(hls:∀l∈ls,l.cells.length=cols)(ps:M)(ac:Nat)(A D x5 x6:M):∀n,n≤ls.length→
    ∃m,m≤n∧Runs (cJ GT (Ph d) reC reB) m [A,wX { u with lines:=ls.take n } ps,.v (.int ac),D,.v (fc cols),x5,x6] (.next,[A,wX { u with lines:=ls.take (jj ls ac u.first u.row n) } ps,.v (.int ac),D,.v (fc cols),x5,x6]):=by
  intro n_
  induction n_ with
  |zero=>exact fun _=>⟨0,Nat.le_refl _,.done (aJ (by
      have h2:decide ((ac:Int)<((aj (ls.take 0)).length:Int)-(u.first:Int))=false:=decide_eq_false (show¬(ac:Int)<(0:Int)-(u.first:Int)by lia)
      exact aM [.b false] (a2 h2 (a2 rfl rfl):)))⟩
  |succ n ih=>
    intro hn
    have hx:ls[n]?=some ls[n]:=List.getElem?_eq_getElem hn
    have hlen:(ls.take (n+1)).length=n+1:=by simp;(exact Nat.min_eq_left hn)
    have hol:(aj (ls.take (n+1))).length=n+1:=by rw[b7,hlen]
    have hit:item (.lst (aj (ls.take (n+1)))) (.v (.int (-1)))=some (.v ls[n].lst):=by
      rw[iX ls n hn];exact dW
    have hpop:(aj (ls.take (n+1))).dropLast=aj (ls.take n):=by
      rw[iX ls n hn]
      simp
    have hpe:(aj (ls.take (n+1))).isEmpty=false:=by
      rw[iX ls n hn]
      simp
    have hbe:=y5 ls[n] cols (hls _ (List.getElem_mem hn))
    have hc:ev GT (Ph d) reC [A,wX { u with lines:=ls.take (n+1) } ps,.v (.int ac),D,.v (fc cols),x5,x6]=some (.v (.bool (decide (ac+u.first<n+1)&&decide (u.row<n)&&ls[n].free)),[A,wX { u with lines:=ls.take (n+1) } ps,.v (.int ac),D,.v (fc cols),x5,x6]):=by
      have e1:decide ((ac:Int)<((aj (ls.take (n+1))).length:Int)-(u.first:Int))=decide (ac+u.first<n+1):=by rw[hol];exact decide_eq_decide.mpr (by lia)
      have e2:decide ((u.row:Int)<((aj (ls.take (n+1))).length:Int)-1)=decide (u.row<n):=by rw[hol];exact decide_eq_decide.mpr (by lia)
      generalize fc cols=bv at*
      by_cases h1:ac+u.first<n+1
      · rw[decide_eq_true h1]at e1 ⊢
        by_cases h2:u.row<n
        · rw[decide_eq_true h2]at e2 ⊢
          exact aM [.b true,.b true,.m _,.d _] (a2 e1 (a2 e2 (a2 hit (a2 hbe (a2 rfl rfl)))):)
        · rw[decide_eq_false h2]at e2 ⊢
          exact aM [.b true,.b false] (a2 e1 (a2 e2 (a2 rfl rfl)):)
      · rw[decide_eq_false h1]at e1 ⊢
        exact aM [.b false] (a2 e1 (a2 rfl rfl):)
    rw[nH]
    rw[hx]
    simp only[Option.any_some]
    by_cases hcond:ac+u.first<n+1∧u.row<n∧ls[n].free=true
    · rw[if_pos hcond]
      rw[decide_eq_true hcond.1,decide_eq_true hcond.2.1,hcond.2.2]at hc
      obtain⟨m,hm,hr⟩:=ih (by(exact Nat.le_of_succ_le hn))
      refine⟨m+1,by(exact Nat.add_le_add_right hm 1),.step (ci hc ?_) hr⟩
      simp only[wX]
      rw[←hpop]
      generalize aj (ls.take (n+1))=Z at*
      exact ora [.b true] (a2 hpe (a2 rfl rfl):)
    · rw[if_neg hcond]
      refine⟨0,by(exact Nat.le_add_left 0 (n+1)),.done (aJ ?_)⟩
      have:(decide (ac+u.first<n+1)&&decide (u.row<n)&&ls[n].free)=false:=by
        cases h:(decide (ac+u.first<n+1)&&decide (u.row<n)&&ls[n].free)with
        |false=>rfl
        |true=>
          simp only[Bool.and_eq_true,decide_eq_true_eq]at h
          exact absurd ⟨h.1.1,h.1.2,h.2⟩ hcond
      rw[this]at hc
      exact hc
theorem vI{i:Int}:M.v (.bool (decide (i=i)))=.v (.bool true):=vb (dT rfl)
theorem lv(u:Cu)(ac:Nat):(u.kept ac).lines.length=jj u.lines ac u.first u.row u.lines.length:=by
  have:=ld u.lines ac u.first u.row u.lines.length
  simp[Cu.kept];(exact Nat.min_eq_left this)
theorem qF(d:Nat)(u:Cu)(cols:Nat)(hcols:cols≤1000)(hls:∀l∈u.lines,l.cells.length=cols)(hl:u.lines.length≤100000)(ps:M)(ac:Nat):
    Ph (d+4) "_law_rest" [u.own,wX u ps,.v (.int ac),.v (.int cols)]=some (.v (.bool true),[(u.kept ac).own,wX (u.kept ac) ps,.v (.int ac),.v (.int cols)]):=by
  have hb:=aE
  obtain⟨m,hm,hr⟩:=tT (d+3) u u.lines cols hls ps ac u.own (.v (.int cols)) .undef .undef u.lines.length (Nat.le_refl _)
  have hw:=b6 hr (by omega)
  rw[List.take_length]at hw
  have hw:ex GT (Ph (d+3)) (.whl reC reB) [u.own,wX u ps,.v (.int ac),.v (.int cols),.v (fc cols),.undef,.undef]=some (.next,[u.own,wX (u.kept ac) ps,.v (.int ac),.v (.int cols),.v (fc cols),.undef,.undef]):=hw
  have hg:=tR d u (fun l h=>by rw[hls l h];(exact Nat.le_trans (by trivial) (Nat.le_add_left _ _))) hl ac
  have hk:=ld u.lines ac u.first u.row u.lines.length
  have hkl:=lv u ac
  have hs:=qD (d+2) (u.kept ac).lines (by lia)
  have hcmp:bn .ne (f8 (u.kept ac).lines) (.lst (aj (u.kept ac).lines))=some false:=cI (jE _) rfl (nG _)
  have htop:=Ee (d+2) (u.kept ac) ac
  have hbr:=jC ao.v (cols:Int) (by(exact Nat.ToInt.of_le rfl rfl hcols)) (by(exact Int.neg_ofNat_le_natCast 1000 cols))
  rw[Int.toNat_natCast]at hbr
  have hbr:a9 .mul (bF [.v (.tup [.tup [],.int 1,bK,.bool false])]) (.v (.int cols))=some (.lst (List.replicate cols ao.v)):=hbr
  generalize u.kept ac=v at*
  have hL:=b7 v.lines
  by_cases h:(v.lines.length:Int)-(v.first:Int)>(ac:Int)
  · rw[if_pos h,←hL]at htop
    have h1:decide ((v.first:Int)<((aj v.lines).length:Int)-(ac:Int))=true:=decide_eq_true (by rw[hL];lia)
    rcases di v.lines with⟨hq,-⟩|hq<;>rw[hq]at hs hcmp
    · exact aD dt rfl [.m _,.s _ _,.c _ _,.c _ _,.d _,.b false,.b true,.c _ _] (a2 hbr (a2 hw (a2 hg (a2 hs (a2 rfl (a2 hcmp (a2 rfl (a2 h1 (a2 htop (a2 rfl (a2 vI rfl)))))))))):)
    · have hind:((M.lstM (v.lines.map bJ)).indep&&(GT.io "_law_seen").all fun x=>!x)=true:=by rw[←hq,d3];rfl
      exact aD dt rfl [.m _,.s _ _,.c _ _,.c _ _,.d _,.b false,.b true,.c _ _] (a2 hbr (a2 hw (a2 hg (a2 hs (a2 hind (a2 hcmp (a2 rfl (a2 h1 (a2 htop (a2 rfl (a2 vI rfl)))))))))):)
  · rw[if_neg h,←hL]at htop
    have h1:decide ((v.first:Int)<((aj v.lines).length:Int)-(ac:Int))=false:=decide_eq_false (by rw[hL];lia)
    rcases di v.lines with⟨hq,-⟩|hq<;>rw[hq]at hs hcmp
    · exact aD dt rfl [.m _,.s _ _,.c _ _,.c _ _,.d _,.b false,.b false,.c _ _] (a2 hbr (a2 hw (a2 hg (a2 hs (a2 rfl (a2 hcmp (a2 rfl (a2 h1 (a2 htop (a2 rfl (a2 vI rfl)))))))))):)
    · have hind:((M.lstM (v.lines.map bJ)).indep&&(GT.io "_law_seen").all fun x=>!x)=true:=by rw[←hq,d3];rfl
      exact aD dt rfl [.m _,.s _ _,.c _ _,.c _ _,.d _,.b false,.b false,.c _ _] (a2 hbr (a2 hw (a2 hg (a2 hs (a2 hind (a2 hcmp (a2 rfl (a2 h1 (a2 htop (a2 rfl (a2 vI rfl)))))))))):)
end Mine.Internal
end
section
set_option genInjectivity true
namespace Mine.Internal
noncomputable def lw(cs:List Int):List V:=cs.map .int
@[simp] theorem pu(cs:List Int):(lw cs).length=cs.length:=by simp[lw]
noncomputable def an(cs:List Int)(n:Nat):M:=.dct [("cells",.lst (lw cs)),("place",.v (.int n))]
theorem wW(n:Nat)(h:n≤1000000):a9 .mul (.v (.int n)) (.v (.int 5))=some (.v (.int ((n:Int)*5))):=by
  show(if _ then _ else _)=_
  rw[if_pos ⟨by(exact Nat.le_succ_of_le (by first|assumption|omega)),by(simp)⟩]
theorem pw(n m:Int)(h:m≠0∧m.natAbs<1000000000):a9 .fdiv (.v (.int n)) (.v (.int m))=some (.v (.int (n.fdiv m))):=by
  show(if _ then _ else _)=_
  rw[if_pos h]
theorem dj(d:Nat)(cs:List Int)(n b:Nat)(hb:0<b)(hn:n≤100000):∃r:Nat,r<b∧Ph (d+1) "_law_take" [an cs n,.v (.int b)]=some (.v (.int r),[an cs (n+1),.v (.int b)]):=by
  have hbp:(0:Int)<(b:Int):=by(exact Int.natCast_pos.mpr hb)
  have main:∀x:Int,(a9 .mod (.v (.int x)) (.v (.int b))=some (.v (.int (x.fmod b)))→Ph (d+1) "_law_take" [an cs n,.v (.int b)]=some (.v (.int (x.fmod b)),[an cs (n+1),.v (.int b)]))→∃r:Nat,r<b∧Ph (d+1) "_law_take" [an cs n,.v (.int b)]=some (.v (.int r),[an cs (n+1),.v (.int b)]):=by
    intro x hx
    have h1:=Int.fmod_nonneg_of_pos x hbp
    have h2:=Int.fmod_lt_of_pos x hbp
    refine⟨(x.fmod b).toNat,by(simp[*]),?_⟩
    have e:(((x.fmod b).toNat:Nat):Int)=x.fmod b:=by(exact Int.toNat_of_nonneg h1)
    rw[e]
    have hm:a9 .mod (.v (.int x)) (.v (.int b))=some (.v (.int (x.fmod b))):=ifF (show¬(b:Int)=0 by(exact Int.natCast_ne_zero_iff_pos.mpr hb)) rfl
    exact hx hm
  by_cases h:n<cs.length
  · have hi:item (.lst (lw cs)) (.v (.int (n:Int)))=some (.v (.int cs[n])):=cq (by(exact Int.natCast_nonneg n)) (by simp[lw,h])
    exact main cs[n] fun hm=>aD i_ rfl [.k,.b true,.m _,.m _] (a2 (dT (show(n:Int)<((lw cs).length:Int)by rw[pu];(exact Int.ofNat_lt.mpr h))) (a2 hi (a2 hm (a2 rfl rfl))):)
  · have h5:=wW n (by(exact Nat.le_trans (by trivial) (Nat.le_add_left _ _)))
    have h3:=pw n 3 ⟨by(simp),by(simp)⟩
    exact main ((n:Int)*5+(n:Int).fdiv 3) fun hm=>aD i_ rfl [.k,.b false,.m _,.m _,.m _] (a2 (dF (show¬(n:Int)<((lw cs).length:Int)by rw[pu];(simp[*]))) (a2 h5 (a2 h3 (a2 hm (a2 rfl rfl)))):)
noncomputable def lnC:E:=.cmp .lt (.bi "len" [(.var 2)]) (.var 1)
noncomputable def lnB:List S:=[
    (.asg (.tup [(.var 3 false),(.var 4 false)]) (.tup [(.call "_law_take" [(.var 0),(.int 7)]),(.bin .add (.int 1024) (.sub (.var 0) (.str "place")))])),
    (.asg (.var 5 false) (.sub (.glob "_law_looks") (.bin .mod (.var 3) (.int 2)))),
    (.ite (.cmp .lt (.var 3) (.int 2)) [
      (.app (.var 2) (.tup [(.tup [(.var 4)]),(.int 1),(.var 5),(.cmp .eq (.var 3) (.int 1))]) false)] [
      (.ite (.cmp .eq (.var 3) (.int 6)) [
        (.ext (.var 2) (.bin .mul (.lst [(.glob "_law_plain")]) (.bin .sub (.var 1) (.bi "len" [(.var 2)]))))] [
        (.ite (.or [(.cmp .lt (.var 3) (.int 4)),(.cmp .eq (.bin .add (.bi "len" [(.var 2)]) (.int 1)) (.var 1))]) [
          (.app (.var 2) (.call "_law_bare" [(.var 5)]) false)] [
          (.ext (.var 2) (.lst [(.tup [(.tup [(.var 4)]),(.int 2),(.var 5),(.cmp .eq (.var 3) (.int 5))]),(.tup [(.tup []),(.int 0),(.var 5),(.cmp .eq (.var 3) (.int 5))])]))])])])]
theorem tU(d:Nat)(cs:List Int)(n cols:Nat)(hn:n≤90000)(hcols:cols≤100)(cells:List Cell)(hlt:cells.length<cols)(hw:WF cells)(x y z:M):
    ∃c' x' y' z',c'≠[]∧cells.length+c'.length≤cols∧WF (cells++c')∧cJ GT (Ph (d+1)) lnC lnB [an cs n,.v (.int cols),.lst (enc cells),x,y,z]=some (.inl [an cs (n+1),.v (.int cols),.lst (enc (cells++c')),x',y',z']):=by
  have hb:=aE
  obtain⟨r,hr,ht⟩:=dj d cs n 7 (by decide) (by(exact Nat.le_trans (by trivial) (Nat.le_add_left _ _)))
  have hc:(cells.length:Int)<(cols:Int):=by(exact Int.ofNat_lt.mpr hlt)
  have hcond:ev GT (Ph (d+1)) lnC [an cs n,.v (.int cols),.lst (enc cells),x,y,z]=some (.v (.bool true),[an cs n,.v (.int cols),.lst (enc cells),x,y,z]):=
    aM [] (a2 (vb (dT (show((enc cells).length:Int)<(cols:Int)by rw[ab];exact hc))) rfl:)
  have hS:∀c':List Cell,c'.length≤200→(enc cells++enc c').length≤big∧enc cells++enc c'=enc (cells++c'):=fun c' h'=>
    ⟨by simp;omega,(aN ..).symm⟩
  have ht:Ph (d+1) "_law_take" [an cs n,.v (.int 7)]=some (.v (.int r),[an cs (n+1),.v (.int 7)]):=ht
  have fin_:∀(c':List Cell) {x' y' z':M},c'≠[]→cells.length+c'.length≤cols→WF (cells++c')→exs GT (Ph (d+1)) lnB [an cs n,.v (.int cols),.lst (enc cells),x,y,z]=some (.next,[an cs (n+1),.v (.int cols),.lst (enc (cells++c')),x',y',z'])→∃c' x' y' z',c'≠[]∧cells.length+c'.length≤cols∧WF (cells++c')∧cJ GT (Ph (d+1)) lnC lnB [an cs n,.v (.int cols),.lst (enc cells),x,y,z]=some (.inl [an cs (n+1),.v (.int cols),.lst (enc (cells++c')),x',y',z']):=
    fun c' x' y' z' h1 h2 h3 h4=>⟨c',x',y',z',h1,h2,h3,ci hcond h4⟩
  have hbare0:=ea d bN
  have hbare1:=ea d ⟨1,2,4,-1,0⟩
  have hrc:r=0∨r=1∨r=2∨r=3∨r=4∨r=5∨r=6:=by(exact C0 (by trivial))
  rcases hrc with rfl|rfl|rfl|rfl|rfl|rfl|rfl
  · have h:=hS [⟨[1024+((n+1:Nat):Int)],1,bN,false⟩] (by simp)
    exact fin_ _ (List.cons_ne_nil _ _) (by simp;(assumption)) (hw.append (WF.one rfl)) (ora [.c _ _,.m _,.b true,.n _] (a2 ht (a2 rfl (a2 rfl (a2 h.1 (a2 (ml h.2) (a2 rfl rfl))))):))
  · have h:=hS [⟨[1024+((n+1:Nat):Int)],1,⟨1,2,4,-1,0⟩,true⟩] (by simp)
    exact fin_ _ (List.cons_ne_nil _ _) (by simp;(solve_by_elim (maxDepth:=3) [Nat.lt_of_lt_of_le,Nat.le_trans,Nat.add_le_add,Nat.le_add_right,Nat.le_add_left,Nat.sub_le,Nat.min_le_left,Nat.min_le_right,Nat.succ_le_of_lt,Nat.lt_of_succ_le])) (hw.append (WF.one rfl)) (ora [.c _ _,.m _,.b true,.n _] (a2 ht (a2 rfl (a2 rfl (a2 h.1 (a2 (ml h.2) (a2 rfl rfl))))):))
  · have h:=hS [bj bN] (by simp)
    exact fin_ _ (List.cons_ne_nil _ _) (by simp;lia) (hw.append (WF.one rfl)) (ora [.c _ _,.m _,.b false,.b false,.b true,.b true,.c _ _,.n _] (a2 ht (a2 rfl (a2 rfl (a2 rfl (a2 rfl (a2 rfl (a2 hbare0 (a2 h.1 (a2 (ml h.2) (a2 rfl rfl))))))))):))
  · have h:=hS [bj ⟨1,2,4,-1,0⟩] (by simp)
    exact fin_ _ (List.cons_ne_nil _ _) (by simp;lia) (hw.append (WF.one rfl)) (ora [.c _ _,.m _,.b false,.b false,.b true,.b true,.c _ _,.n _] (a2 ht (a2 rfl (a2 rfl (a2 rfl (a2 rfl (a2 rfl (a2 hbare1 (a2 h.1 (a2 (ml h.2) (a2 rfl rfl))))))))):))
  · by_cases hl:cells.length+1=cols
    · have hd:=dT (show((enc cells).length:Int)+1=(cols:Int)by rw[ab];(exact Eq.symm (Int.neg_inj.mp (congrArg Neg.neg (congrArg Nat.cast (id (Eq.symm hl)))))))
      have h:=hS [bj bN] (by simp)
      exact fin_ _ (List.cons_ne_nil _ _) (by simp;(assumption)) (hw.append (WF.one rfl)) (ora [.c _ _,.m _,.b false,.b false,.b false,.b true,.c _ _,.n _] (a2 ht (a2 rfl (a2 rfl (a2 rfl (a2 rfl (a2 hd (a2 hbare0 (a2 h.1 (a2 (ml h.2) (a2 rfl rfl))))))))):))
    · have hd:=dF (show¬((enc cells).length:Int)+1=(cols:Int)by rw[ab];(exact Nat.ToInt.of_diseq rfl rfl hl))
      have h:=hS [⟨[1024+((n+1:Nat):Int)],2,bN,false⟩,⟨[],0,bN,false⟩] (by simp)
      exact fin_ _ (List.cons_ne_nil _ _) (by simp;lia) (hw.append (WF.two rfl rfl)) (ora [.c _ _,.m _,.b false,.b false,.b false,.b false,.n _] (a2 ht (a2 rfl (a2 rfl (a2 rfl (a2 rfl (a2 hd (a2 h.1 (a2 (ml h.2) (a2 rfl rfl)))))))):))
  · by_cases hl:cells.length+1=cols
    · have hd:=dT (show((enc cells).length:Int)+1=(cols:Int)by rw[ab];(exact congrArg Int.ofNat (by trivial)))
      have h:=hS [bj ⟨1,2,4,-1,0⟩] (by simp)
      exact fin_ _ (List.cons_ne_nil _ _) (by simp;(solve_by_elim (maxDepth:=3) [Nat.lt_of_lt_of_le,Nat.le_trans,Nat.add_le_add,Nat.le_add_right,Nat.le_add_left,Nat.sub_le,Nat.min_le_left,Nat.min_le_right,Nat.succ_le_of_lt,Nat.lt_of_succ_le])) (hw.append (WF.one rfl)) (ora [.c _ _,.m _,.b false,.b false,.b false,.b true,.c _ _,.n _] (a2 ht (a2 rfl (a2 rfl (a2 rfl (a2 rfl (a2 hd (a2 hbare1 (a2 h.1 (a2 (ml h.2) (a2 rfl rfl))))))))):))
    · have hd:=dF (show¬((enc cells).length:Int)+1=(cols:Int)by rw[ab];lia)
      have h:=hS [⟨[1024+((n+1:Nat):Int)],2,⟨1,2,4,-1,0⟩,true⟩,⟨[],0,⟨1,2,4,-1,0⟩,true⟩] (by simp)
      exact fin_ _ (List.cons_ne_nil _ _) (by simp;lia) (hw.append (WF.two rfl rfl)) (ora [.c _ _,.m _,.b false,.b false,.b false,.b false,.n _] (a2 ht (a2 rfl (a2 rfl (a2 rfl (a2 rfl (a2 hd (a2 h.1 (a2 (ml h.2) (a2 rfl rfl)))))))):))
  · have h:=hS (List.replicate (cols-cells.length) ao) (by simp;(exact Nat.le_of_lt (by first|assumption|omega)))
    have hbr:=jC ao.v ((cols:Int)-(cells.length:Int)) (by lia) (by lia)
    rw[show((cols:Int)-(cells.length:Int)).toNat=cols-cells.length by(exact Int.toNat_sub cols cells.length),←jB]at hbr
    have hbr:a9 .mul (.lst [ao.v]) (.v (.int ((cols:Int)-((enc cells).length:Int))))=some (.lst (enc (List.replicate (cols-cells.length) ao))):=by rw[ab];exact hbr
    exact fin_ (List.replicate (cols-cells.length) ao) (by simp;(exact Nat.sub_ne_zero_iff_lt.mpr hlt)) (by simp;(exact tZ (by trivial) (by trivial))) (hw.append (WF.rep rfl _)) (ora [.c _ _,.m _,.b false,.b true,.m _,.n _] (a2 ht (a2 rfl (a2 rfl (a2 rfl (a2 hbr (a2 h.1 (a2 (ml h.2) (a2 rfl rfl))))))):))
end Mine.Internal
end
section
set_option genInjectivity true
namespace Mine.Internal
theorem tV(d:Nat)(cs:List Int)(cols:Nat)(hcols:cols≤100):∀(m n:Nat) (cells:List Cell) (x y z:M),cols≤cells.length+m→cells.length≤cols→n+m≤90000→WF cells→
    ∃k n' cells' x' y' z',k≤m∧n'≤n+m∧cells'.length=cols∧WF cells'∧Runs (cJ GT (Ph (d+1)) lnC lnB) k [an cs n,.v (.int cols),.lst (enc cells),x,y,z] (.next,[an cs n',.v (.int cols),.lst (enc cells'),x',y',z']):=by
  intro n_
  induction n_ with
  |zero=>exact fun n cells x y z h1 h2 h3 hw=>⟨0,n,cells,x,y,z,Nat.le_refl _,Nat.le_refl _,by(exact Eq.symm (Nat.le_antisymm h1 h2)),hw,.done (aJ (by
      have hc:¬((enc cells).length:Int)<(cols:Int):=by rw[ab];lia
      exact aM [] (a2 (vb (dF hc)) rfl:)))⟩
  |succ m ih=>
    intro n cells x y z h1 h2 h3 hw
    by_cases hlt:cells.length<cols
    · obtain⟨c',x',y',z',g1,g2,g3,ht⟩:=tU d cs n cols (by(exact Nat.le_of_add_right_le h3)) hcols cells hlt hw x y z
      have hpos:=List.length_pos_iff.mpr g1
      obtain⟨k,n',cells',a,b,c,r1,r2,r3,r4,hr⟩:=ih (n+1) (cells++c') x' y' z' (by simp;lia) (by simp;(assumption)) (by lia) g3
      exact⟨k+1,n',cells',a,b,c,by(exact Nat.add_le_add_right r1 1),by lia,r3,r4,.step ht hr⟩
    · refine⟨0,n,cells,x,y,z,Nat.zero_le _,by(exact Nat.le_add_right n (m+1)),by lia,hw,.done (aJ ?_)⟩
      have hc:¬((enc cells).length:Int)<(cols:Int):=by rw[ab];simp[*]
      exact aM [] (a2 (vb (dF hc)) rfl:)
theorem elc{G:Tab}{Φ:Phi}{e:E}{r:List E}{σ σ₁ σ₂:List M}{m:M}{ms:List M}(he:ev G Φ e σ=some (m,σ₁))(ht:(e.temp||m.isV)=true)(hr:evL G Φ r σ₁=some (ms,σ₂)):evL G Φ (e::r) σ=some (m::ms,σ₂):=bd he (ifT ht (md hr rfl))
theorem qG(d:Nat)(cs:List Int)(cols:Nat)(hcols:cols≤100)(n:Nat)(hn:n≤80000):
    ∃l n',n'≤n+cols+2∧l.cells.length=cols∧WF l.cells∧Ph (d+2) "_law_line" [an cs n,.v (.int cols)]=some (bJ l,[an cs n',.v (.int cols)]):=by
  have hb:=aE
  obtain⟨k,n',cells,a,b,c,r1,r2,r3,r4,hr⟩:=tV d cs cols hcols cols n [] .undef .undef .undef (by simp) (by simp) (by(exact Nat.le_of_lt (by first|assumption|omega))) WF.nil
  have hw:=b6 hr (by(exact Nat.le_of_lt_succ (by trivial)))
  obtain⟨g,hg,ht⟩:=dj d cs n' 3 (by decide) (by(exact Nat.le_succ_of_le (by trivial)))
  obtain⟨s,hs,ht2⟩:=dj d cs (n'+1) 7 (by decide) (by(exact Nat.succ_le_of_lt (by first|assumption|omega)))
  have hsz:∃z:String,item (.v (.tup [.str "single",.str "single",.str "single",.str "single",.str "wide",.str "top",.str "bottom"])) (.v (.int s))=some (.v (.str z)):=by
    have hrc:s=0∨s=1∨s=2∨s=3∨s=4∨s=5∨s=6:=by(exact C0 (by trivial))
    rcases hrc with rfl|rfl|rfl|rfl|rfl|rfl|rfl
    · exact⟨"single",rfl⟩
    · exact⟨"single",rfl⟩
    · exact⟨"single",rfl⟩
    · exact⟨"single",rfl⟩
    · exact⟨"wide",rfl⟩
    · exact⟨"top",rfl⟩
    · exact⟨"bottom",rfl⟩
  obtain⟨z,hz⟩:=hsz
  refine⟨⟨cells,decide (0<(g:Int)),z⟩,n'+1+1,by(exact Nat.le_add_of_sub_le r2),r3,r4,?_⟩
  have hw:ex GT (Ph (d+1)) (.whl lnC lnB) [an cs n,.v (.int cols),.lst [],.undef,.undef,.undef]=_:=hw
  have ht:Ph (d+1) "_law_take" [an cs n',.v (.int 3)]=some (.v (.int g),[an cs (n'+1),.v (.int 3)]):=ht
  have ht2:Ph (d+1) "_law_take" [an cs (n'+1),.v (.int 7)]=some (.v (.int s),[an cs (n'+1+1),.v (.int 7)]):=ht2
  have h1:ev GT (Ph (d+1)) (.cmp .gt (.call "_law_take" [.var 0,.int 3]) (.int 0)) [an cs n',.v (.int cols),.undef,a,b,c]=some (.v (.bool (decide (0<(g:Int)))),[an cs (n'+1),.v (.int cols),.undef,a,b,c]):=aM [.c _ _] (a2 ht (a2 rfl rfl):)
  have h2:ev GT (Ph (d+1)) (.call "_law_take" [.var 0,.int 7]) [an cs (n'+1),.v (.int cols),.undef,a,b,c]=some (.v (.int s),[an cs (n'+1+1),.v (.int cols),.undef,a,b,c]):=aM [.c _ _] (a2 ht2 (a2 rfl rfl):)
  have h3:ev GT (Ph (d+1)) (.sub (.glob "_law_sizes") (.call "_law_take" [.var 0,.int 7])) [an cs (n'+1),.v (.int cols),.undef,a,b,c]=some (.v (.str z),[an cs (n'+1+1),.v (.int cols),.undef,a,b,c]):=ifF Bool.false_ne_true (bd rfl (ifT rfl (bd h2 (md hz rfl))))
  have hs:ex GT (Ph (d+1)) (.ret (some (.lst [.mov 2,.cmp .gt (.call "_law_take" [.var 0,.int 3]) (.int 0),.sub (.glob "_law_sizes") (.call "_law_take" [.var 0,.int 7])]))) [an cs n',.v (.int cols),.lst (enc cells),a,b,c]=some (.ret (bJ ⟨cells,decide (0<(g:Int)),z⟩),[an cs (n'+1+1),.v (.int cols),.undef,a,b,c]):=bd (md (elc (aM [] (a2 rfl rfl:)) rfl (elc h1 rfl (elc h3 rfl rfl))) rfl) (ifT rfl rfl)
  exact aD oC rfl [.k,.s _ _,.s _ _] (a2 hw (a2 hs (a2 rfl rfl)):)
noncomputable def iy(A m B:M)(cols:Nat):List M:=[A,m,.v (.int cols),B,.undef,.undef,.undef,.undef,.undef,.undef,.undef,.undef,.undef,.undef,.undef,.undef,.undef,.undef,.undef,.undef,.undef,.undef,.undef]
theorem qH(d:Nat)(cs:List Int)(cols:Nat)(hcols:cols≤100)(A B:M):
    ∀(xs:List V) (n:Nat),n+102*xs.length≤80000→∃(ls:List Ln) (n':Nat),ls.length=xs.length∧n'≤n+102*xs.length∧(∀l∈ls,l.cells.length=cols∧WF l.cells)∧
      ac (bu GT (Ph (d+2)) (.call "_law_line" [(.var 1),(.var 2)]) (.var 19) none) xs (iy A (an cs n) B cols)=some (ls.map bJ,iy A (an cs n') B cols):=by
  intro xs_
  induction xs_ with
  |nil=>exact fun n _=>⟨[],n,rfl,by simp,(fun _ h=>nomatch h),rfl⟩
  |cons x r ih=>
    intro n h
    simp only[List.length_cons]at h
    obtain⟨l,n1,h1,h2,h3,h4⟩:=qG d cs cols hcols n (by(exact Nat.le_of_add_right_le h))
    obtain⟨ls,n2,g1,g2,g3,g4⟩:=ih n1 (by lia)
    refine⟨l::ls,n2,by simp[g1],by simp only[List.length_cons];lia,?_,?_⟩
    · intro l' hl'
      rcases List.mem_cons.mp hl' with rfl|hl'
      · exact⟨h2,h3⟩
      · exact g3 l' hl'
    · have e:bu GT (Ph (d+2)) (.call "_law_line" [(.var 1),(.var 2)]) (.var 19) none x (iy A (an cs n) B cols)=some (some (bJ l),iy A (an cs n1) B cols):=by
        refine kZ (y:=bJ l) (σ₁:=(iy A (an cs n) B cols).set 19 (.v x)) (σ₂:=(iy A (an cs n1) B cols).set 19 (.v x)) rfl ?_ rfl rfl
        exact aM [.c _ _] (a2 h4 (a2 rfl rfl):)
      simp only[ua,e,Option.bind_some,g4,Option.map_some,List.map_cons]
end Mine.Internal
end
section
set_option genInjectivity true
namespace Mine.Internal
theorem CG(d:Nat)(l:List Int)(h:l.length≤63):∃cs:List Int,ex GT (Ph d) q0 [.v (.lst (l.map .int)),.undef,.undef,.undef,.undef,.undef,.undef,.undef,.undef,.undef,.undef,.undef,.undef,.undef,.undef,.undef,.undef,.undef,.undef,.undef,.undef,.undef,.undef]=some (.next,[.v (.lst (l.map .int)),an cs 0,.undef,.undef,.undef,.undef,.undef,.undef,.undef,.undef,.undef,.undef,.undef,.undef,.undef,.undef,.undef,.undef,.undef,.undef,.undef,.undef,.undef]):=by
  have hb:=aE
  have hcut:cut (l.map V.int) (cT none l.length) (cU (some 63) l.length)=l.map V.int:=by
    have:ec 63 l.length=l.length:=by
      unfold ec
      rw[if_pos (by(exact Int.zero_le_ofNat 63))];(exact Nat.min_eq_right h)
    simp only[cut,cT,cU,this]
    rw[List.drop_zero]
    exact List.take_of_length_le (by simp)
  refine⟨l.map fun x=>x.fmod 1000000000,?_⟩
  have hpow:a9 .pow (.v (.int 10)) (.v (.int 9))=some (.v (.int 1000000000)):=rfl
  have hr:=pf (f:=bu GT (Ph d) (.bin .mod (.bi "int" [(.var 18)]) (.bin .pow (.int 10) (.int 9))) (.var 18) none) (σ:=[.v (.lst (l.map .int)),.undef,.undef,.undef,.undef,.undef,.undef,.undef,.undef,.undef,.undef,.undef,.undef,.undef,.undef,.undef,.undef,.undef,.undef,.undef,.undef,.undef,.undef]) (e:=V.int) (fun x=>V.int (x.fmod 1000000000)) l (by
    intro x _
    refine kZ (y:=.v (.int (x.fmod 1000000000))) (σ₂:=[.v (.lst (l.map .int)),.undef,.undef,.undef,.undef,.undef,.undef,.undef,.undef,.undef,.undef,.undef,.undef,.undef,.undef,.undef,.undef,.undef,.v (.int x),.undef,.undef,.undef,.undef]) rfl ?_ rfl rfl
    have hmod:a9 .mod (.v (.int x)) (.v (.int 1000000000))=some (.v (.int (x.fmod 1000000000))):=rfl
    exact aM [.m _,.m _] (a2 hpow (a2 hmod (a2 rfl rfl)):))
  have hund:gD (.var 18) [.v (.lst (l.map .int)),.undef,.undef,.undef,.undef,.undef,.undef,.undef,.undef,.undef,.undef,.undef,.undef,.undef,.undef,.undef,.undef,.undef,.undef,.undef,.undef,.undef,.undef]=true:=iu _ _ rfl
  have hm:(l.map fun x=>V.int (x.fmod 1000000000))=lw (l.map fun x=>x.fmod 1000000000):=by simp[lw]
  rw[hm]at hr
  have hlen:(lw (l.map fun x=>x.fmod 1000000000)).length≤big:=by simp;(exact Nat.le_trans (by trivial) (Nat.le_add_left _ _))
  have hs:evS GT (Ph d) (!((E.bin .mod (.bi "int" [(.var 18)]) (.bin .pow (.int 10) (.int 9))).calm GT.io&&E.calmO GT.io none)) (.it (.slc (.var 0) Option.none (some (.int 63)))) [.v (.lst (l.map .int)),.undef,.undef,.undef,.undef,.undef,.undef,.undef,.undef,.undef,.undef,.undef,.undef,.undef,.undef,.undef,.undef,.undef,.undef,.undef,.undef,.undef,.undef]=some ((l.map V.int).map .v,[.v (.lst (l.map .int)),.undef,.undef,.undef,.undef,.undef,.undef,.undef,.undef,.undef,.undef,.undef,.undef,.undef,.undef,.undef,.undef,.undef,.undef,.undef,.undef,.undef,.undef]):=by
    show some ((cut (l.map V.int) (cT none (l.map V.int).length) (cU (some 63) (l.map V.int).length)).map M.v,_)=_
    rw[List.length_map,hcut]
  have hcm:=fy hund hs hr (by rw[List.length_map];exact hlen)
  rw[gq]at hcm
  exact aI [.m _] (a2 hcm (a2 rfl rfl):)
theorem CH(d:Nat)(X:M)(cs:List Int)(n:Nat)(hn:n≤1000):∃r1 r2:Nat,r1<4∧r2<6∧ex GT (Ph (d+1)) q1 [X,an cs n,.undef,.undef,.undef,.undef,.undef,.undef,.undef,.undef,.undef,.undef,.undef,.undef,.undef,.undef,.undef,.undef,.undef,.undef,.undef,.undef,.undef]=some (.next,[X,an cs (n+1+1),.v (.int (2+r1:Nat)),.v (.int (1+r2:Nat)),.undef,.undef,.undef,.undef,.undef,.undef,.undef,.undef,.undef,.undef,.undef,.undef,.undef,.undef,.undef,.undef,.undef,.undef,.undef]):=by
  obtain⟨r1,h1,t1⟩:=dj d cs n 4 (by decide) (by(exact Nat.le_trans (by trivial) (Nat.le_add_left _ _)))
  obtain⟨r2,h2,t2⟩:=dj d cs (n+1) 6 (by decide) (by(exact Nat.succ_le_of_lt (by trivial)))
  have t1:Ph (d+1) "_law_take" [an cs n,.v (.int 4)]=some (.v (.int r1),[an cs (n+1),.v (.int 4)]):=t1
  have t2:Ph (d+1) "_law_take" [an cs (n+1),.v (.int 6)]=some (.v (.int r2),[an cs (n+1+1),.v (.int 6)]):=t2
  refine⟨r1,r2,h1,h2,?_⟩
  have e1:((2+r1:Nat):Int)=2+(r1:Int):=by(subst_vars;rfl)
  have e2:((1+r2:Nat):Int)=1+(r2:Int):=by(subst_vars;rfl)
  rw[e1,e2]
  exact aI [.c _ _,.c _ _] (a2 t1 (a2 t2 (a2 rfl rfl)):)
theorem wY(ls:List Ln):dG (f8 ls)=some (.v (.lst (aj ls))):=by rw[Ch,jE];rfl
theorem CI(d:Nat)(A:M)(cs:List Int)(n cols many:Nat)(hcols:cols≤100)(hm:many≤6)(hn:n≤1000):∃(ls:List Ln) (n':Nat),ls.length=many∧n'≤n+612∧(∀l∈ls,l.cells.length=cols∧WF l.cells)∧ex GT (Ph (d+2)) q2 (iy A (an cs n) (.v (.int many)) cols)=some (.next,(iy A (an cs n') (.v (.int many)) cols).set 4 (.v (.lst (aj ls)))):=by
  have hb:=aE
  obtain⟨ls,n',h1,h2,h3,h4⟩:=qH d cs cols hcols A (.v (.int many)) (bt 0 many) n (by rw[jD];simp;omega)
  rw[jD,List.length_map,List.length_range]at h1 h2
  refine⟨ls,n',h1,by(exact Nat.le_of_lt_succ (by trivial)),h3,?_⟩
  have hund:∀m,gD (.var 19) (iy A m (.v (.int many)) cols)=true:=fun m=>iu _ _ rfl
  have hl:(ls.map bJ).length≤big:=by simp;(exact Nat.le_of_lt (by first|assumption|omega))
  exact sr (fy (hund _) (kR rfl (by lia)) h4 hl) (wY ls) (of_decide_eq_true rfl) rfl
end Mine.Internal
end
section
set_option genInjectivity true
namespace Mine.Internal
theorem CJ(d:Nat)(X:M)(ls:List Ln)(cs:List Int)(n old many:Nat)(hm:0<many)(hn:n≤1000):∃top:Nat,top<many∧ex GT (Ph (d+1)) q3 [X,an cs n,.v (.int (old:Nat)),.v (.int (many:Nat)),.v (.lst (aj ls)),.undef,.undef,.undef,.undef,.undef,.undef,.undef,.undef,.undef,.undef,.undef,.undef,.undef,.undef,.undef,.undef,.undef,.undef]=some (.next,[X,an cs (n+1),.v (.int (old:Nat)),.v (.int (many:Nat)),.v (.lst (aj ls)),.v (.int (top:Nat)),.undef,.undef,.undef,.undef,.undef,.undef,.undef,.undef,.undef,.undef,.undef,.undef,.undef,.undef,.undef,.undef,.undef]):=by
  obtain⟨r,h,t⟩:=dj d cs n many hm (by(exact Nat.le_trans (by trivial) (Nat.le_add_left _ _)))
  have t:Ph (d+1) "_law_take" [an cs n,.v (.int (many:Nat))]=some (.v (.int r),[an cs (n+1),.v (.int (many:Nat))]):=t
  refine⟨r,h,?_⟩
  exact aI [.c _ _] (a2 t (a2 rfl rfl):)
theorem CK(d:Nat)(X:M)(ls:List Ln)(cs:List Int)(n old many top:Nat)(hm:top<many)(hn:n≤1000):∃row:Nat,row<many∧ex GT (Ph (d+1)) q4 [X,an cs n,.v (.int (old:Nat)),.v (.int (many:Nat)),.v (.lst (aj ls)),.v (.int (top:Nat)),.undef,.undef,.undef,.undef,.undef,.undef,.undef,.undef,.undef,.undef,.undef,.undef,.undef,.undef,.undef,.undef,.undef]=some (.next,[X,an cs (n+1),.v (.int (old:Nat)),.v (.int (many:Nat)),.v (.lst (aj ls)),.v (.int (top:Nat)),.v (.int (row:Nat)),.undef,.undef,.undef,.undef,.undef,.undef,.undef,.undef,.undef,.undef,.undef,.undef,.undef,.undef,.undef,.undef]):=by
  obtain⟨r,h,t⟩:=dj d cs n (many-top) (by(exact Nat.zero_lt_sub_of_lt hm)) (by(exact Nat.le_trans (by trivial) (Nat.le_add_left _ _)))
  have t:Ph (d+1) "_law_take" [an cs n,.v (.int ((many-top:Nat):Int))]=some (.v (.int r),[an cs (n+1),.v (.int ((many-top:Nat):Int))]):=t
  refine⟨top+r,by(exact Nat.add_lt_of_lt_sub' h),?_⟩
  have e:(many:Int)-(top:Int)=((many-top:Nat):Int):=by(exact wZ (by trivial))
  have e2:((top+r:Nat):Int)=(top:Int)+(r:Int):=by(exact Int.natCast_add top r)
  rw[e2]
  rw[←e]at t
  exact aI [.c _ _] (a2 t (a2 rfl rfl):)
theorem CM(d:Nat)(X Y:M)(ls:List Ln)(old many top row:Nat)(hr:row<ls.length)(ho:2≤old):∃sh:Nat,0<sh∧sh≤old∧ex GT (Ph d) q5 [X,Y,.v (.int (old:Nat)),.v (.int (many:Nat)),.v (.lst (aj ls)),.v (.int (top:Nat)),.v (.int (row:Nat)),.undef,.undef,.undef,.undef,.undef,.undef,.undef,.undef,.undef,.undef,.undef,.undef,.undef,.undef,.undef,.undef]=some (.next,[X,Y,.v (.int (old:Nat)),.v (.int (many:Nat)),.v (.lst (aj ls)),.v (.int (top:Nat)),.v (.int (row:Nat)),.v (.int (sh:Nat)),.undef,.undef,.undef,.undef,.undef,.undef,.undef,.undef,.undef,.undef,.undef,.undef,.undef,.undef,.undef]):=by
  have hL:ls[row]?=some ls[row]:=List.getElem?_eq_getElem hr
  have ha:=dA (ls:=ls) (i:=(row:Int)) (by(exact Int.natCast_nonneg row)) (by rw[Int.toNat_natCast];exact hL)
  have hf:a9 .fdiv (.v (.int (old:Nat))) (.v (.int 2))=some (.v (.int ((old/2:Nat):Int))):=by
    rw[pw _ _ ⟨by(simp),by(simp)⟩]
    congr 3
    rw[Int.fdiv_eq_ediv_of_nonneg _ (by decide)]
    (subst_vars;rfl)
  have hb:item (.v ls[row].lst) (.v (.int 2))=some (.v (.str ls[row].size)):=rfl
  by_cases hs:ls[row].size="single"
  · exact⟨old,by(exact Nat.zero_lt_of_lt ho),by(exact Nat.le_refl old),by exact aI [.m _,.m _,.b true] (a2 ha (a2 hb (a2 (decide_eq_true hs) (a2 rfl rfl))):)⟩
  · refine⟨old/2,by(simp[*]),by(exact Nat.div_le_self old 2),?_⟩
    generalize((old/2:Nat):Int)=y at*
    exact aI [.m _,.m _,.b false,.m _] (a2 ha (a2 hb (a2 (decide_eq_false hs) (a2 hf (a2 rfl rfl)))):)
theorem CN(d:Nat)(X:M)(ls:List Ln)(cs:List Int)(n old many top row sh:Nat)(hsh:0<sh)(hn:n≤1000):∃(col:Nat) (w:Bool),col<sh∧ex GT (Ph (d+1)) q6 [X,an cs n,.v (.int (old:Nat)),.v (.int (many:Nat)),.v (.lst (aj ls)),.v (.int (top:Nat)),.v (.int (row:Nat)),.v (.int (sh:Nat)),.undef,.undef,.undef,.undef,.undef,.undef,.undef,.undef,.undef,.undef,.undef,.undef,.undef,.undef,.undef]=some (.next,[X,an cs (n+1+1),.v (.int (old:Nat)),.v (.int (many:Nat)),.v (.lst (aj ls)),.v (.int (top:Nat)),.v (.int (row:Nat)),.v (.int (sh:Nat)),.v (.int (col:Nat)),.v (.bool w),.undef,.undef,.undef,.undef,.undef,.undef,.undef,.undef,.undef,.undef,.undef,.undef,.undef]):=by
  obtain⟨r,h,t⟩:=dj d cs n sh hsh (by(exact Nat.le_trans (by trivial) (Nat.le_add_left _ _)))
  obtain⟨r2,h2,t2⟩:=dj d cs (n+1) 2 (by decide) (by(exact Nat.add_le_add_right (by trivial) _))
  have t:Ph (d+1) "_law_take" [an cs n,.v (.int (sh:Nat))]=some (.v (.int r),[an cs (n+1),.v (.int (sh:Nat))]):=t
  have t2:Ph (d+1) "_law_take" [an cs (n+1),.v (.int 2)]=some (.v (.int r2),[an cs (n+1+1),.v (.int 2)]):=t2
  refine⟨r,decide ((r2:Int)=1),h,?_⟩
  exact aI [.c _ _,.c _ _] (a2 t (a2 t2 (a2 rfl rfl)):)
theorem CP(d:Nat)(X Y:M)(ls:List Ln)(hg:kM ls)(old many top row sh col:Nat)(w:Bool)(hr:row<ls.length):∃w2:Bool,ex GT (Ph (d+2)) q7 [X,Y,.v (.int (old:Nat)),.v (.int (many:Nat)),.v (.lst (aj ls)),.v (.int (top:Nat)),.v (.int (row:Nat)),.v (.int (sh:Nat)),.v (.int (col:Nat)),.v (.bool w),.undef,.undef,.undef,.undef,.undef,.undef,.undef,.undef,.undef,.undef,.undef,.undef,.undef]=some (.next,[X,Y,.v (.int (old:Nat)),.v (.int (many:Nat)),.v (.lst (aj ls)),.v (.int (top:Nat)),.v (.int (row:Nat)),.v (.int (sh:Nat)),.v (.int (col:Nat)),.v (.bool w),.v (Cur.v ⟨row,col,w2⟩),.undef,.undef,.undef,.undef,.undef,.undef,.undef,.undef,.undef,.undef,.undef,.undef]):=by
  have hf:=f0 d ls row hr hg
  cases w with
  |false=>exact⟨false,by exact aI [.b false] (a2 rfl (a2 rfl rfl):)⟩
  |true=>
    by_cases h:col+1=sh
    · have hi:(col:Int)+1=(sh:Int):=by(subst_vars;rfl)
      exact⟨!bE ls row,by exact aI [.b true,.b true,.c _ _] (a2 rfl (a2 (decide_eq_true hi) (a2 hf (a2 rfl rfl))):)⟩
    · have hi:¬(col:Int)+1=(sh:Int):=by(exact Nat.ToInt.of_diseq rfl rfl h)
      exact⟨false,by exact aI [.b true,.b false] (a2 rfl (a2 (decide_eq_false hi) (a2 rfl rfl)):)⟩
theorem CQ(d:Nat)(X:M)(ls:List Ln)(cs:List Int)(n old many top row sh col:Nat)(w:Bool)(k:Cur)(hn:n≤1000):∃cols ac:Nat,0<cols∧cols≤6∧ac≤5∧ex GT (Ph (d+1)) q8 [X,an cs n,.v (.int (old:Nat)),.v (.int (many:Nat)),.v (.lst (aj ls)),.v (.int (top:Nat)),.v (.int (row:Nat)),.v (.int (sh:Nat)),.v (.int (col:Nat)),.v (.bool w),.v k.v,.undef,.undef,.undef,.undef,.undef,.undef,.undef,.undef,.undef,.undef,.undef,.undef]=some (.next,[X,an cs (n+1+1),.v (.int (old:Nat)),.v (.int (many:Nat)),.v (.lst (aj ls)),.v (.int (top:Nat)),.v (.int (row:Nat)),.v (.int (sh:Nat)),.v (.int (col:Nat)),.v (.bool w),.v k.v,.v (.int (cols:Nat)),.v (.int (ac:Nat)),.undef,.undef,.undef,.undef,.undef,.undef,.undef,.undef,.undef,.undef]):=by
  obtain⟨r,h,t⟩:=dj d cs n 6 (by decide) (by(exact Nat.le_trans (by trivial) (Nat.le_add_left _ _)))
  obtain⟨r2,h2,t2⟩:=dj d cs (n+1) 5 (by decide) (by(exact Nat.lt_succ_of_lt (by trivial)))
  have t:Ph (d+1) "_law_take" [an cs n,.v (.int 6)]=some (.v (.int r),[an cs (n+1),.v (.int 6)]):=t
  have t2:Ph (d+1) "_law_take" [an cs (n+1),.v (.int 5)]=some (.v (.int r2),[an cs (n+1+1),.v (.int 5)]):=t2
  refine⟨1+r,1+r2,by(exact Nat.pos_of_neZero (1+r)),by(exact Nat.one_add_le_iff.mpr h),by(exact Nat.one_add_le_iff.mpr h2),?_⟩
  have e1:((1+r:Nat):Int)=1+(r:Int):=by(subst_vars;rfl)
  have e2:((1+r2:Nat):Int)=1+(r2:Int):=by(solve_by_elim (maxDepth:=3) [Nat.lt_of_lt_of_le,Nat.le_trans,Nat.add_le_add,Nat.le_add_right,Nat.le_add_left,Nat.sub_le,Nat.min_le_left,Nat.min_le_right,Nat.succ_le_of_lt,Nat.lt_of_succ_le])
  rw[e1,e2]
  exact aI [.c _ _,.c _ _] (a2 t (a2 t2 (a2 rfl rfl)):)
theorem pz:∀ls:List Ln,M.toVs (ls.map Ln.own)=some (aq ls)
  |[]=>rfl
  |l::r=>bd (rfl:M.toV l.own=some l.obj) (md (pz r) rfl)
theorem y6(ls:List Ln):dG (bF (ls.map Ln.own))=some (.v (.lst (aq ls))):=by
  cases ls with
  |nil=>rfl
  |cons l r=>
    show dG (.lstM ((l::r).map Ln.own))=_
    exact md (md (pz (l::r)) rfl) rfl
theorem CR(d:Nat)(X Y:M){ls:List Ln}(g:Good ls)(old many top row sh col:Nat)(w:Bool)(k:Cur)(cols rows_:Nat):ex GT (Ph (d+5)) q9 [X,Y,.v (.int (old:Nat)),.v (.int (many:Nat)),.v (.lst (aj ls)),.v (.int (top:Nat)),.v (.int (row:Nat)),.v (.int (sh:Nat)),.v (.int (col:Nat)),.v (.bool w),.v k.v,.v (.int (cols:Nat)),.v (.int (rows_:Nat)),.undef,.undef,.undef,.undef,.undef,.undef,.undef,.undef,.undef,.undef]=some (.next,[X,Y,.v (.int (old:Nat)),.v (.int (many:Nat)),.v (.lst (aj ls)),.v (.int (top:Nat)),.v (.int (row:Nat)),.v (.int (sh:Nat)),.v (.int (col:Nat)),.v (.bool w),.v k.v,.v (.int (cols:Nat)),.v (.int (rows_:Nat)),.v (.lst (aq ls)),.undef,.undef,.undef,.undef,.undef,.undef,.undef,.undef,.undef]):=by
  have hb:=aE
  have hr:=fq (f:=bu GT (Ph (d+5)) (.call "line_of" [(.var 20),(.var 21),(.var 22)]) (.tup [(.var 20),(.var 21),(.var 22)]) none) (σ:=[X,Y,.v (.int (old:Nat)),.v (.int (many:Nat)),.v (.lst (aj ls)),.v (.int (top:Nat)),.v (.int (row:Nat)),.v (.int (sh:Nat)),.v (.int (col:Nat)),.v (.bool w),.v k.v,.v (.int (cols:Nat)),.v (.int (rows_:Nat)),.undef,.undef,.undef,.undef,.undef,.undef,.undef,.undef,.undef,.undef]) (e:=Ln.lst) (fun _=>true) Ln.own ls (by
    intro l hl
    have hp:=tv d l (g.full l hl).2 (g.wf l hl).first (g.full l hl).1 (g.wf l hl).fix
    refine kZ (y:=l.own) (σ₂:=[X,Y,.v (.int (old:Nat)),.v (.int (many:Nat)),.v (.lst (aj ls)),.v (.int (top:Nat)),.v (.int (row:Nat)),.v (.int (sh:Nat)),.v (.int (col:Nat)),.v (.bool w),.v k.v,.v (.int (cols:Nat)),.v (.int (rows_:Nat)),.undef,.undef,.undef,.undef,.undef,.undef,.undef,.v (.lst (enc l.cells)),.v (.bool l.goes),.v (.str l.size)]) rfl ?_ rfl rfl
    exact aM [.c _ _] (a2 hp (a2 rfl rfl):))
  rw[List.filter_eq_self.mpr (fun _ _=>rfl)]at hr
  have hr:ac (bu GT (Ph (d+5)) (.call "line_of" [(.var 20),(.var 21),(.var 22)]) (.tup [(.var 20),(.var 21),(.var 22)]) none) (aj ls) [X,Y,.v (.int (old:Nat)),.v (.int (many:Nat)),.v (.lst (aj ls)),.v (.int (top:Nat)),.v (.int (row:Nat)),.v (.int (sh:Nat)),.v (.int (col:Nat)),.v (.bool w),.v k.v,.v (.int (cols:Nat)),.v (.int (rows_:Nat)),.undef,.undef,.undef,.undef,.undef,.undef,.undef,.undef,.undef,.undef]=_:=hr
  have hund:gD (.tup [(.var 20),(.var 21),(.var 22)]) [X,Y,.v (.int (old:Nat)),.v (.int (many:Nat)),.v (.lst (aj ls)),.v (.int (top:Nat)),.v (.int (row:Nat)),.v (.int (sh:Nat)),.v (.int (col:Nat)),.v (.bool w),.v k.v,.v (.int (cols:Nat)),.v (.int (rows_:Nat)),.undef,.undef,.undef,.undef,.undef,.undef,.undef,.undef,.undef,.undef]=true:=rfl
  have hlen:(ls.map Ln.own).length≤big:=by have:=g.len;simp;(exact Nat.le_trans (by trivial) (Nat.le_add_left _ _))
  exact sr (fy hund rfl hr hlen) (y6 ls) (of_decide_eq_true rfl) rfl
end Mine.Internal
end
section
set_option genInjectivity true
namespace Mine.Internal
theorem y7(d:Nat){ls:List Ln}(g:Good ls)(h2:∀l∈ls,2≤l.cells.length)(h6:ls.length≤6)(many top cols ac:Nat)(hc:0<cols)(hcols:cols≤100)(k:Cur)(hk:k.c≤1000)(X0 X1 X2 X6 X7 X8 X9:M):
    ex GT (Ph (d+8)) q10 [X0,X1,X2,.v (.int (many:Nat)),.v (.lst (aj ls)),.v (.int (top:Nat)),X6,X7,X8,X9,.v k.v,.v (.int (cols:Nat)),.v (.int (ac:Nat)),.v (.lst (aq ls)),.undef,.undef,.undef,.undef,.undef,.undef,.undef,.undef,.undef]=some (.next,[X0,X1,X2,.v (.int (many:Nat)),.v (.lst (aj ls)),.v (.int (top:Nat)),X6,X7,X8,X9,.v k.v,.v (.int (cols:Nat)),.v (.int (ac:Nat)),.v (.lst (aq ls)),(jr ls cols top k).own,wM (jr ls cols top k) (iw ls cols top k),.undef,.undef,.undef,.undef,.undef,.undef,.undef]):=by
  have hi:=kY d g h6 top k hk cols hc hcols
  have hl:=tO (d+3) g h2 h6 cols top hc hcols k hk
  exact aI [.c _ (_::_),.c _ _] (a2 rfl (a2 hi (a2 hl (a2 rfl rfl))):)
theorem y8(d:Nat)(ls:List Ln)(hls:ls.length≤1000)(u:Cu)(hu:u.lines.length≤100000)(ps:List Pl)(many top cols ac:Nat)(k:Cur)(X0 X1 X2 X6 X7 X8 X9:M):
    ex GT (Ph (d+1)) q11 [X0,X1,X2,.v (.int (many:Nat)),.v (.lst (aj ls)),.v (.int (top:Nat)),X6,X7,X8,X9,.v k.v,.v (.int (cols:Nat)),.v (.int (ac:Nat)),.v (.lst (aq ls)),u.own,wM u ps,.undef,.undef,.undef,.undef,.undef,.undef,.undef]=some (.next,[X0,X1,X2,.v (.int (many:Nat)),.v (.lst (aj ls)),.v (.int (top:Nat)),X6,X7,X8,X9,.v k.v,.v (.int (cols:Nat)),.v (.int (ac:Nat)),.v (.lst (aq ls)),u.own,wM u ps,.undef,.undef,.undef,.undef,.undef,.undef,.undef]):=by
  have h1:=qD d u.lines hu
  have h2:=qD d ls (by(exact Nat.le_trans (by trivial) (Nat.le_add_left _ _)))
  have c1:bn .ne (f8 u.lines) (.lst (aj u.lines))=some false:=cI (jE _) rfl (nG _)
  have c2:bn .ne (f8 ls) (.v (.lst (aj ls)))=some false:=cI (jE _) rfl (nG _)
  rcases di u.lines with⟨hq,-⟩|hq<;>rw[hq]at h1 c1
  · rcases di ls with⟨hq2,-⟩|hq2<;>rw[hq2]at h2 c2
    · exact aI [.c _ _,.d _,.b false,.c _ _,.d _,.b false] (a2 h1 (a2 rfl (a2 c1 (a2 rfl (a2 h2 (a2 c2 (a2 rfl (a2 rfl rfl))))))):)
    · have i2:((M.lstM (ls.map bJ)).indep&&(GT.io "_law_seen").all fun x=>!x)=true:=by rw[←hq2,d3];rfl
      exact aI [.c _ _,.d _,.b false,.c _ _,.d _,.b false] (a2 h1 (a2 rfl (a2 c1 (a2 rfl (a2 h2 (a2 c2 (a2 rfl (a2 rfl rfl))))))):)
  · have i1:((M.lstM (u.lines.map bJ)).indep&&(GT.io "_law_seen").all fun x=>!x)=true:=by rw[←hq,d3];rfl
    rcases di ls with⟨hq2,-⟩|hq2<;>rw[hq2]at h2 c2
    · exact aI [.c _ _,.d _,.b false,.c _ _,.d _,.b false] (a2 h1 (a2 i1 (a2 c1 (a2 rfl (a2 h2 (a2 c2 (a2 rfl (a2 rfl rfl))))))):)
    · have i2:((M.lstM (ls.map bJ)).indep&&(GT.io "_law_seen").all fun x=>!x)=true:=by rw[←hq2,d3];rfl
      exact aI [.c _ _,.d _,.b false,.c _ _,.d _,.b false] (a2 h1 (a2 i1 (a2 c1 (a2 rfl (a2 h2 (a2 c2 (a2 rfl (a2 rfl rfl))))))):)
theorem y9(d:Nat)(ls:List Ln)(u:Cu)(ps:List Pl)(many top cols ac:Nat)(k:Cur)(X0 X1 X2 X6 X7 X8 X9:M):
    ex GT (Ph d) q12 [X0,X1,X2,.v (.int (many:Nat)),.v (.lst (aj ls)),.v (.int (top:Nat)),X6,X7,X8,X9,.v k.v,.v (.int (cols:Nat)),.v (.int (ac:Nat)),.v (.lst (aq ls)),u.own,wM u ps,.undef,.undef,.undef,.undef,.undef,.undef,.undef]=some (.next,[X0,X1,X2,.v (.int (many:Nat)),.v (.lst (aj ls)),.v (.int (top:Nat)),X6,X7,X8,X9,.v k.v,.v (.int (cols:Nat)),.v (.int (ac:Nat)),.v (.lst (aq ls)),u.own,wM u ps,.undef,.undef,.undef,.undef,.undef,.undef,.undef]):=by
  have c1:bn .ne (.v (.tup [.int u.first,.tup [.int u.row,.int u.col,.bool u.wait]])) (.v (.tup [.int u.first,.tup [.int u.row,.int u.col,.bool u.wait]]))=some false:=cI rfl rfl rfl
  exact aI [.d _,.b false] (a2 c1 (a2 rfl (a2 rfl rfl)):)
theorem y_(d:Nat)(ls:List Ln)(u:Cu)(ps:List Pl)(many top cols ac:Nat)(k:Cur)(X0 X1 X2 X6 X7 X8 X9:M):
    ex GT (Ph d) q13 [X0,X1,X2,.v (.int (many:Nat)),.v (.lst (aj ls)),.v (.int (top:Nat)),X6,X7,X8,X9,.v k.v,.v (.int (cols:Nat)),.v (.int (ac:Nat)),.v (.lst (aq ls)),u.own,wM u ps,.undef,.undef,.undef,.undef,.undef,.undef,.undef]=some (.next,[X0,X1,X2,.v (.int (many:Nat)),.v (.lst (aj ls)),.v (.int (top:Nat)),X6,X7,X8,X9,.v k.v,.v (.int (cols:Nat)),.v (.int (ac:Nat)),.v (.lst (aq ls)),u.own,wX u (.v (.lst (dD ps))),.undef,.undef,.undef,.undef,.undef,.undef,.undef]):=by
  exact aI [] (a2 rfl rfl:)
noncomputable abbrev ED:List S:=[
    (.ite (.cmp .ne (.meth (.var 14) "Cutting" "place_of" "Cutting.place_of" [(.var 16),(.var 8)]) (.var 17)) [
      (.ret (some (.bool false)))] [])]
theorem za(d:Nat)(ls:List Ln)(u:Cu)(ps:List Pl)(many top cols ac:Nat)(k:Cur)(hc:0<cols)(hu:u.cols=cols)(hco:∀p∈ps,Coh u cols p)(X0 X1 X2 X6 X7 X8 X9:M):
    ∃a b c,ex GT (Ph (d+2)) q14 [X0,X1,X2,.v (.int (many:Nat)),.v (.lst (aj ls)),.v (.int (top:Nat)),X6,X7,X8,X9,.v k.v,.v (.int (cols:Nat)),.v (.int (ac:Nat)),.v (.lst (aq ls)),u.own,wX u (.v (.lst (dD ps))),.undef,.undef,.undef,.undef,.undef,.undef,.undef]=some (.next,[X0,X1,X2,.v (.int (many:Nat)),.v (.lst (aj ls)),.v (.int (top:Nat)),X6,X7,a,X9,.v k.v,.v (.int (cols:Nat)),.v (.int (ac:Nat)),.v (.lst (aq ls)),u.own,wX u (.v (.lst (dD ps))),b,c,.undef,.undef,.undef,.undef,.undef]):=by
  obtain⟨σ,ht,a,b,c,hσ⟩:=iS (f:=hH GT (Ph (d+2)) (.tup [(.var 16),(.var 8),(.var 17)]) ED) (fun _ σ=>∃a b c,σ=[X0,X1,X2,.v (.int (many:Nat)),.v (.lst (aj ls)),.v (.int (top:Nat)),X6,X7,a,X9,.v k.v,.v (.int (cols:Nat)),.v (.int (ac:Nat)),.v (.lst (aq ls)),u.own,wX u (.v (.lst (dD ps))),b,c,.undef,.undef,.undef,.undef,.undef]) ((dD ps).map .v) 0 (by
      intro j hj σ hσ
      obtain⟨a,b,c,rfl⟩:=hσ
      have hj2:j<ps.length:=by simpa using hj
      have he:((dD ps).map M.v)[j]=.v (Pl.v ps[j]):=by simp[dD]
      rw[he]
      obtain⟨s,hs1,hs2⟩:=hco ps[j] (List.getElem_mem hj2)
      generalize ps[j]=p at*
      have hp:=qr d u p.1 p.2.1 s hs1 (by(exact Nat.lt_of_lt_of_eq hc (id (Eq.symm hu))))
      rw[hu,hs2]at hp
      have hcm:bn .ne (.v (plV (p.2.2.1,p.2.2.2))) (.v (.tup [.int p.2.2.1,.int p.2.2.2]))=some false:=cI rfl rfl rfl
      refine⟨_,kP (σ₁:=[X0,X1,X2,.v (.int (many:Nat)),.v (.lst (aj ls)),.v (.int (top:Nat)),X6,X7,.v (.int p.2.1),X9,.v k.v,.v (.int (cols:Nat)),.v (.int (ac:Nat)),.v (.lst (aq ls)),u.own,wX u (.v (.lst (dD ps))),.v (.int p.1),.v (.tup [.int p.2.2.1,.int p.2.2.2]),.undef,.undef,.undef,.undef,.undef]) rfl ?_,.v (.int p.2.1),.v (.int p.1),.v (.tup [.int p.2.2.1,.int p.2.2.2]),rfl⟩
      exact ora [.c _ _,.d _,.b false] (a2 hp (a2 rfl (a2 hcm (a2 rfl (a2 rfl rfl)))):)) [X0,X1,X2,.v (.int (many:Nat)),.v (.lst (aj ls)),.v (.int (top:Nat)),X6,X7,X8,X9,.v k.v,.v (.int (cols:Nat)),.v (.int (ac:Nat)),.v (.lst (aq ls)),u.own,wX u (.v (.lst (dD ps))),.undef,.undef,.undef,.undef,.undef,.undef,.undef] ⟨X8,.undef,.undef,rfl⟩
  subst hσ
  refine⟨a,b,c,?_⟩
  have e:q14=.for_ (.tup [(.var 16),(.var 8),(.var 17)]) (.it (.sub (.var 15) (.str "places"))) ED:=rfl
  have he:evS GT (Ph (d+2)) true (.it (.sub (.var 15) (.str "places"))) [X0,X1,X2,.v (.int (many:Nat)),.v (.lst (aj ls)),.v (.int (top:Nat)),X6,X7,X8,X9,.v k.v,.v (.int (cols:Nat)),.v (.int (ac:Nat)),.v (.lst (aq ls)),u.own,wX u (.v (.lst (dD ps))),.undef,.undef,.undef,.undef,.undef,.undef,.undef]=some ((dD ps).map .v,[X0,X1,X2,.v (.int (many:Nat)),.v (.lst (aj ls)),.v (.int (top:Nat)),X6,X7,X8,X9,.v k.v,.v (.int (cols:Nat)),.v (.int (ac:Nat)),.v (.lst (aq ls)),u.own,wX u (.v (.lst (dD ps))),.undef,.undef,.undef,.undef,.undef,.undef,.undef]):=by
    rfl
  rw[e,l9,he,Option.bind_some]
  exact ht
theorem zb(d:Nat)(ls:List Ln)(u:Cu)(ps:List Pl)(many top cols ac:Nat)(k:Cur)(hu:u.spots.length=many)(X0 X1 X2 X6 X7 X9 a b c:M):
    ex GT (Ph (d+1)) q15 [X0,X1,X2,.v (.int (many:Nat)),.v (.lst (aj ls)),.v (.int (top:Nat)),X6,X7,a,X9,.v k.v,.v (.int (cols:Nat)),.v (.int (ac:Nat)),.v (.lst (aq ls)),u.own,wX u (.v (.lst (dD ps))),b,c,.undef,.undef,.undef,.undef,.undef]=some (.next,[X0,X1,X2,.v (.int (many:Nat)),.v (.lst (aj ls)),.v (.int (top:Nat)),X6,X7,a,X9,.v k.v,.v (.int (cols:Nat)),.v (.int (ac:Nat)),.v (.lst (aq ls)),u.own,wX u (.v (.lst (dD ps))),b,c,.undef,.undef,.undef,.undef,.undef]):=by
  have h1:=ik d u (many:Int) 0 (.inr (by(exact Int.le_of_eq (congrArg Nat.cast hu))))
  have h2:=ik d u (-1) 0 (.inl (by(exact Int.sign_eq_neg_one_iff_neg.mp rfl)))
  exact aI [.c _ _,.b false,.c _ _,.b false] (a2 h1 (a2 rfl (a2 rfl (a2 h2 (a2 rfl (a2 rfl (a2 rfl rfl)))))):)
theorem zc(d:Nat)(ls:List Ln)(u:Cu)(ps:List Pl)(many top cols ac:Nat)(hcols:cols≤1000)(hls:∀l∈u.lines,l.cells.length=cols)(hl:u.lines.length≤100000)(k:Cur)(X0 X1 X2 X6 X7 X9 a b c:M):
    ∃σ,ex GT (Ph (d+4)) q16 [X0,X1,X2,.v (.int (many:Nat)),.v (.lst (aj ls)),.v (.int (top:Nat)),X6,X7,a,X9,.v k.v,.v (.int (cols:Nat)),.v (.int (ac:Nat)),.v (.lst (aq ls)),u.own,wX u (.v (.lst (dD ps))),b,c,.undef,.undef,.undef,.undef,.undef]=some (.ret (.v (.bool true)),σ):=by
  have h:=qF d u cols hcols hls hl (.v (.lst (dD ps))) ac
  exact⟨_,by exact aI [.c _ _] (a2 h (a2 rfl rfl):)⟩
end Mine.Internal
end
section
set_option genInjectivity true
namespace Mine.Internal
theorem pure_law(l:List Int)(h:l.length≤63):∃outs,Ph 20 "law" [.v (.lst (l.map .int))]=some (.v (.bool true),outs):=by
  have call:Ph 20 "law" [.v (.lst (l.map .int))]=fin 1 (exs GT (Ph 19) qR [.v (.lst (l.map .int)),.undef,.undef,.undef,.undef,.undef,.undef,.undef,.undef,.undef,.undef,.undef,.undef,.undef,.undef,.undef,.undef,.undef,.undef,.undef,.undef,.undef,.undef]):=nj (d:=19) B7 rfl
  rw[call,wO]
  obtain⟨cs,s0⟩:=CG 19 l h
  rw[aS s0]
  generalize M.v (.lst (l.map .int))=X
  obtain⟨r1,r2,hr1,hr2,s1⟩:=CH 18 X cs 0 (by(exact Nat.zero_le 1000))
  rw[aS s1]
  obtain⟨ls,n1,hlen,hn1,hls,s2⟩:=CI 17 X cs (0+1+1) (2+r1) (1+r2) (by(exact Nat.le_of_lt (by trivial))) (by(exact Nat.one_add_le_iff.mpr hr2)) (by(exact Nat.le_of_ble_eq_true rfl))
  generalize hold:2+r1=old at*
  generalize hmany:1+r2=many at*
  have ho2:2≤old:=by(exact Nat.le.intro hold)
  have hm0:0<many:=by(exact Nat.succ_le_of_lt (by trivial))
  have hm6:many≤6:=by lia
  have g:Good ls:=⟨fun l' hl=>(hls l' hl).2,fun l' hl=>⟨fun e=>by have:=(hls l' hl).1;rw[e]at this;simp at this;(exact absurd (by trivial) (Nat.not_lt.mpr (by trivial))),by have:=(hls l' hl).1;(exact Nat.le_of_lt_succ (by first|assumption|omega))⟩,by(exact Nat.le_succ_of_le (by trivial))⟩
  have g2:∀l'∈ls,2≤l'.cells.length:=fun l' hl=>by have:=(hls l' hl).1;(simp[*])
  have s2:ex GT (Ph 19) q2 [X,an cs (0+1+1),.v (.int (old:Nat)),.v (.int (many:Nat)),.undef,.undef,.undef,.undef,.undef,.undef,.undef,.undef,.undef,.undef,.undef,.undef,.undef,.undef,.undef,.undef,.undef,.undef,.undef]=some (.next,[X,an cs n1,.v (.int (old:Nat)),.v (.int (many:Nat)),.v (.lst (aj ls)),.undef,.undef,.undef,.undef,.undef,.undef,.undef,.undef,.undef,.undef,.undef,.undef,.undef,.undef,.undef,.undef,.undef,.undef]):=s2
  rw[aS s2]
  obtain⟨top,htop,s3⟩:=CJ 18 X ls cs n1 old many hm0 (by(exact Nat.le_trans (by trivial) (Nat.le_add_left _ _)))
  rw[aS s3]
  obtain⟨row,hrow,s4⟩:=CK 18 X ls cs (n1+1) old many top htop (by(exact Nat.succ_le_of_lt (by first|assumption|omega)))
  rw[aS s4]
  obtain⟨sh,hsh0,hsh,s5⟩:=CM 19 X (an cs (n1+1+1)) ls old many top row (by(exact Nat.lt_of_lt_of_eq hrow (id (Eq.symm hlen)))) ho2
  rw[aS s5]
  obtain⟨col,w,hcol,s6⟩:=CN 18 X ls cs (n1+1+1) old many top row sh hsh0 (by(exact Nat.add_le_add_right (by trivial) _))
  rw[aS s6]
  obtain⟨w2,s7⟩:=CP 17 X (an cs (n1+1+1+1+1)) ls g.full old many top row sh col w (by lia)
  rw[aS s7]
  have hkc:(⟨row,col,w2⟩:Cur).c≤1000:=by simp only;(exact Nat.le_succ_of_le (by first|assumption|omega))
  generalize(⟨row,col,w2⟩:Cur)=k at*
  obtain⟨cols,rows_,hc0,hc6,hr5,s8⟩:=CQ 18 X ls cs (n1+1+1+1+1) old many top row sh col w k (by(exact Nat.le_succ_of_le (by trivial)))
  rw[aS s8]
  rw[aS (CR 14 X (an cs (n1+1+1+1+1+1+1)) g old many top row sh col w k cols rows_)]
  rw[aS (y7 11 g g2 (by(simp[*])) many top cols rows_ hc0 (by(exact Nat.le_trans (by trivial) (Nat.le_add_left _ _))) k hkc _ _ _ _ _ _ _)]
  obtain⟨cl1,cl2⟩:=qC g (by lia) cols top hc0 k hkc
  obtain⟨co1,co2⟩:=y4 g g2 cols top hc0 k
  have hcc:=tP ls cols top k
  generalize iw ls cols top k=ps at*
  generalize jr ls cols top k=u at*
  rw[aS (y8 18 ls (by(exact Nat.le_succ_of_le (by trivial))) u (by(exact Nat.le_trans (by trivial) (Nat.le_add_left _ _))) ps many top cols rows_ k _ _ _ _ _ _ _)]
  rw[aS (y9 19 ls u ps many top cols rows_ k _ _ _ _ _ _ _)]
  rw[aS (y_ 19 ls u ps many top cols rows_ k _ _ _ _ _ _ _)]
  obtain⟨a,b,c,s14⟩:=za 17 ls u ps many top cols rows_ k hc0 hcc co2 X (an cs (n1+1+1+1+1+1+1)) (.v (.int (old:Nat))) (.v (.int (row:Nat))) (.v (.int (sh:Nat))) (.v (.int (col:Nat))) (.v (.bool w))
  rw[aS s14]
  rw[aS (zb 18 ls u ps many top cols rows_ k (by(simp[*])) _ _ _ _ _ _ _ _ _)]
  obtain⟨σ,s16⟩:=zc 15 ls u ps many top cols rows_ (by(exact Nat.le_trans (by trivial) (Nat.le_add_left _ _))) cl2 (by(exact Nat.le_trans (by trivial) (Nat.le_add_left _ _))) k X (an cs (n1+1+1+1+1+1+1)) (.v (.int (old:Nat))) (.v (.int (row:Nat))) (.v (.int (sh:Nat))) (.v (.bool w)) a b c
  rw[qj,s16,jd,sb]
  exact⟨_,rfl⟩
end Mine.Internal
end
theorem PySem.Challenge.cw_rh0232_01_holds : PySem.Challenge.rw_rh0232_01.Holds :=
  Mine.Internal.join Mine.Internal.pure_law
